/-
  The reference of layer 1: Shr, Bits, told of numbers. Written by wip/gen/r5.py.
-/
import Derived.Test.YtjlfcnkndndgaaaDoorR4
namespace Te
theorem shr_digit (u t r : Nat) (hr : r < 8) : (u + 65536 * t) / 2 ^ r % 256 = u / 2 ^ r % 256 := by
  obtain rfl | rfl | rfl | rfl | rfl | rfl | rfl | rfl : r = 0 ∨ r = 1 ∨ r = 2 ∨ r = 3 ∨ r = 4 ∨ r = 5 ∨ r = 6 ∨ r = 7 := by omega
  all_goals omega
theorem div_pow_digit (xs : List Nat) (hx : Ok xs) (i : Nat) : ∃ t, val xs / 256 ^ i = Tw.dg xs i + 256 * Tw.dg xs (i + 1) + 65536 * t := by
  have h0 : val xs / 256 ^ i = val (xs.drop i) := by
    have h1 := val_split xs i
    have h2 := val_take_lt hx i
    rw [B_eq] at h1 h2
    rw [h1, Nat.add_mul_div_left _ _ (Nat.pow_pos (by omega)), Nat.div_eq_of_lt h2, Nat.zero_add]
  rw [h0]
  have h3 := val_split (xs.drop i) 2
  have e1 : val ((xs.drop i).take 2) = Tw.dg xs i + 256 * Tw.dg xs (i + 1) := by
    rw [val_take_succ', val_take_succ']
    have a1 : (xs.drop i).getD 0 0 = Tw.dg xs i := dg_drop xs i 0
    have a2 : (xs.drop i).getD 1 0 = Tw.dg xs (i + 1) := dg_drop xs i 1
    rw [a1, a2, B_eq]
    simp [val]
  refine ⟨val ((xs.drop i).drop 2), ?_⟩
  rw [h3, e1, B_eq]
/-- i digits of the number of xs, so many bits lower, are told. -/
def ShI (v r : Nat) (ds : List Nat) (i : Nat) : Prop := Ok ds ∧ ds.length = i ∧ val ds = v / 2 ^ r % 256 ^ i
theorem ShI.start (v r : Nat) : ShI v r [] 0 := ⟨Ok.nil, rfl, by simp [val, Nat.mod_one]⟩
theorem ShI.step {xs : List Nat} {r i : Nat} {ds : List Nat} (h : ShI (val xs) r ds i) (hx : Ok xs) (hr : r < 8) : ShI (val xs) r (ds ++ [(Tw.dg xs i + 256 * Tw.dg xs (i + 1)) / 2 ^ r % 256]) (i + 1) := by
  obtain ⟨h1, h2, h3⟩ := h
  refine ⟨h1.append (Ok.cons (by rw [B_eq]; omega) Ok.nil), by simp [h2], ?_⟩
  obtain ⟨t, ht⟩ := div_pow_digit xs hx i
  rw [val_snoc, h3, h2, B_eq, Nat.mod_pow_succ, Nat.div_div_eq_div_mul, Nat.mul_comm (2 ^ r), ← Nat.div_div_eq_div_mul, ht, shr_digit _ _ _ hr]
theorem ShI.done {xs ds : List Nat} {r i : Nat} (h : ShI (val xs) r ds i) (hx : Ok xs) (hi : i = xs.length) : val ds = val xs / 2 ^ r := by
  rw [h.2.2, Nat.mod_eq_of_lt]
  have := val_lt hx
  rw [B_eq, ← hi] at this
  exact Nat.lt_of_le_of_lt (Nat.div_le_self _ _) this
end Te
namespace Go.Proofs.YtjlfcnkndndgaaaDoor
open Go.RowKit Tw

theorem tmod_nat (u r : Nat) (z : Int) (h : z = (u : Int)) : (z / 2 ^ r).tmod 256 = ((u / 2 ^ r % 256 : Nat) : Int) := by
  subst h
  have : ((u : Int) / 2 ^ r) = ((u / 2 ^ r : Nat) : Int) := by simp
  rw [this]
  rfl
theorem Sm.drop {w : World} {b off c : Nat} {xs : List Nat} (h : Sm w (some ⟨b, off, none⟩) c xs) (q : Nat) (hq : q < xs.length) : Sm w (some ⟨b, off + q, none⟩) (c - q) (xs.drop q) := by
  refine ⟨h.ok.drop q, by rw [List.length_drop]; have := h.le; omega, (fun e => by cases e), fun _ => ?_⟩
  obtain ⟨b', off', e, hc⟩ := h.cells (by omega)
  cases e
  refine ⟨b, off + q, rfl, fun k hk => ?_⟩
  rw [List.length_drop] at hk
  have := hc (q + k) (by omega)
  rw [Nat.add_assoc, this]
  congr 3
  exact (Te.dg_drop xs q k).symm
set_option maxHeartbeats 4000000 in
theorem shr_r {w : World} {A : Option Addr} {c l a : Nat} (z : Int) (h : V w A c l a) (hl : l ≤ 50000) (hz' : -9223372036854775808 ≤ z) (hz2 : z ≤ 9223372036854775807) :
    Calls Tryd.prog 34 #[.slice A l c, .int .i64 z] w (Tells w (a / 2 ^ z.toNat) (l + 1)) := by
  obtain ⟨i0, hi, hz0, hz1, hz2'⟩ := info_parts infoInt
  have hn := h.lt
  go_enter Tryd.func34, Tryd.ntmps34
  go_wp2_with fail
  refine (small_v h (by omega)).mono ?_
  rintro e w0 ⟨A0, c0, l0, rfl, h0, b0⟩
  have s0 := h0.small hn
  have HN := Lib.hid hn
  clear h hn
  have ha : a < 256 ^ l0 := by have := Te.lt_pow_nl a; rw [h0.2, Te.B_eq] at this; exact this
  by_cases g1 : 8 * (l0 : Int) ≤ z
  · have HE : Hid (a / 2 ^ z.toNat = 0) := by
      show _ = _
      apply Nat.div_eq_of_lt
      refine Nat.lt_of_lt_of_le ha ?_
      rw [show (256 : Nat) = 2 ^ 8 from rfl, ← Nat.pow_mul]
      exact Nat.pow_le_pow_right (by omega) (by omega)
    clear ha
    go_wp2_with fail
    go_ret
    exact ⟨none, 0, 0, rfl, by rw [HE.out]; exact nums_none _, by omega, b0⟩
  · have HA := Lib.hid ha
    clear ha
    by_cases g2 : z < 1
    · have HE : Hid (z.toNat = 0) := Lib.hid (by omega)
      go_wp2_with fail
      refine (large_d h0 (by omega)).mono ?_
      rintro e w1 ⟨A1, c1, l1, rfl, h1, m1, b1⟩
      go_wp2_with fail
      go_ret
      exact ⟨A1, c1, l1, rfl, by rw [HE.out, Nat.pow_zero, Nat.div_one]; exact h1, by omega, below_trans b0 b1⟩
    · obtain ⟨m, rfl⟩ : ∃ m : Nat, z = (m : Int) := ⟨z.toNat, by omega⟩
      obtain ⟨q, hq⟩ : ∃ q, m / 8 = q := ⟨_, rfl⟩
      obtain ⟨r, hr⟩ : ∃ r, m % 8 = r := ⟨_, rfl⟩
      have hql : q < l0 := by omega
      have hr8 : r < 8 := by omega
      have hmm : m = 8 * q + r := by omega
      have HM := Lib.hid hmm
      have hqi : ((m : Int) / 8) = (q : Int) := by omega
      have hri : ((m : Int) % 8) = (r : Int) := by omega
      obtain ⟨b, off, rfl, hcell⟩ := h0.1.cells (by show 0 < Te.nl _; rw [h0.2]; omega)
      clear hcell
      have hle0 : l0 ≤ c0 := by have := h0.1.le; rw [← h0.2]; exact this
      have hsd := h0.1.drop q (by show q < Te.nl _; rw [h0.2]; exact hql)
      have hln : ((Te.limbs a).drop q).length = l0 - q := by rw [List.length_drop]; congr 1; exact h0.2
      have hvl : Te.val ((Te.limbs a).drop q) = a / 256 ^ q := by
        have h1 := Te.val_split (Te.limbs a) q
        have h2 := Te.val_take_lt (Te.ok_limbs a) q
        rw [Te.val_limbs, Te.B_eq] at h1
        rw [Te.B_eq] at h2
        have : (a : Nat) / 256 ^ q = (Te.val ((Te.limbs a).take q) + 256 ^ q * Te.val ((Te.limbs a).drop q)) / 256 ^ q := by rw [← h1]
        rw [this, Nat.add_mul_div_left _ _ (Nat.pow_pos (by omega)), Nat.div_eq_of_lt h2, Nat.zero_add]
      obtain ⟨xs, hxs⟩ : ∃ xs, xs = (Te.limbs a).drop q := ⟨_, rfl⟩
      rw [← hxs] at hsd hln hvl
      have HX : Hid (Sm w0 (some ⟨b, off + q, none⟩) (c0 - q) xs ∧ xs.length = l0 - q) := ⟨hsd, hln⟩
      have HVL := Lib.hid hvl
      have i1 : (0 : Int) ≤ q := by omega
      have i2 : (q : Int) ≤ l0 := by omega
      clear hq hr hmm hsd hln hvl hxs h0
      have hlx : l0 - q ≤ 400000 := by omega
      go_wp2_with fail
      clear hqi
      generalize c0 - q = cx at *
      generalize hgx : l0 - q = lx at *
      have hlx2 : lx ≤ l0 := by omega
      clear hgx
      go_loopw [6, 7] (fun v i wr => ∃ (k : Nat) (ds : List Nat), k ≤ lx ∧ i = .int .i64 k ∧ OwnS wr w0.heap.size v ds ∧ Te.ShI (Te.val xs) r ds k ∧ Below w0.heap.size w0 wr) (fun _ i _ => lx - (intOf i).toNat)
      case atStart => exact ⟨0, [], by omega, rfl, World.ownsRow_nil _ _ _ _, Te.ShI.start _ _, Below.refl _ _⟩
      case round =>
        obtain ⟨k, ds, hk, rfl, hown, hsi, hb⟩ := hrel
        by_cases hx : k < lx
        · have hlen : ds.length ≤ 900000 := by have := hsi.2.1; omega
          have hz := hb.size
          have d1 : dg xs k < 256 := Te.dg_lt HX.out.1.ok k
          have d2 : dg xs (k + 1) < 256 := Te.dg_lt HX.out.1.ok (k + 1)
          have HS := Lib.hid (hsi.step HX.out.1.ok hr8)
          obtain ⟨ba, oa, ea, ca⟩ := (HX.out.1.below hb).cells (by rw [HX.out.2]; omega)
          cases ea
          have c1 := ca k (by rw [HX.out.2]; omega)
          clear hsi
          by_cases hx2 : k + 1 < lx
          · have c2 := ca (k + 1) (by rw [HX.out.2]; omega)
            clear ca
            go_wp2_with (at_builtin; refine wpList_append_own _ rfl _ _ 38 rfl w0.heap.size 3 i0 (.int .i64 0) 1 8 Tryd.underlying38 hi hz0 hz1 hz2' rfl (by decide) _ _ _ rfl (hown.alloc _) ⟨_, 0, none⟩ 1 1 [.int .i64 (((((dg xs k : Nat) : Int) + 256 * ((dg xs (k + 1) : Nat) : Int)) / 2 ^ r).tmod 256)] rfl rfl (one_news _ _ _) (one_int _ _) (len_bd hlen) (byte_bd hlen) (base_bd hz _) ?_; intro v' w1 hown' hgrow _)
            have hb1 := own_grow hb hz hown hgrow
            have ho1 := own_snoc ((dg xs k + 256 * dg xs (k + 1)) / 2 ^ r % 256) hown' (tmod_nat (dg xs k + 256 * dg xs (k + 1)) r _ (by omega))
            clear hown hown' hgrow hb
            go_wp2_with fail
            go_roundw
            case rel => exact ⟨k + 1, _, by omega, by go_num, ho1, HS.out, hb1⟩
            case measure => simp [intOf]; omega
          · have HZ : Hid (dg xs (k + 1) = 0) := Lib.hid (Tw.dg_past (by rw [HX.out.2]; omega))
            clear ca
            go_wp2_with (at_builtin; refine wpList_append_own _ rfl _ _ 38 rfl w0.heap.size 3 i0 (.int .i64 0) 1 8 Tryd.underlying38 hi hz0 hz1 hz2' rfl (by decide) _ _ _ rfl (hown.alloc _) ⟨_, 0, none⟩ 1 1 [.int .i64 ((((dg xs k : Nat) : Int) / 2 ^ r).tmod 256)] rfl rfl (one_news _ _ _) (one_int _ _) (len_bd hlen) (byte_bd hlen) (base_bd hz _) ?_; intro v' w1 hown' hgrow _)
            have hb1 := own_grow hb hz hown hgrow
            have ho1 := own_snoc ((dg xs k + 256 * dg xs (k + 1)) / 2 ^ r % 256) hown' (by rw [HZ.out]; exact tmod_nat (dg xs k) r _ rfl)
            clear hown hown' hgrow hb
            go_wp2_with fail
            go_roundw
            case rel => exact ⟨k + 1, _, by omega, by go_num, ho1, HS.out, hb1⟩
            case measure => simp [intOf]; omega
        · obtain rfl : k = lx := by omega
          have hval : Te.val ds = a / 2 ^ (m : Int).toNat := by
            rw [hsi.done HX.out.1.ok HX.out.2.symm, HVL.out, Nat.div_div_eq_div_mul, show (256 : Nat) = 2 ^ 8 from rfl, ← Nat.pow_mul, ← Nat.pow_add, ← HM.out]; rfl
          obtain ⟨A3, c3, rfl, hsm⟩ := hown.sm hsi.1
          have HV := Lib.hid hval
          have hlk : ds.length = k := hsi.2.1
          have HLK := Lib.hid hlk
          clear hown hsi hval hlk
          go_wp2_with fail
          refine (large_s hsm rfl HV.out (by have := HLK.out; omega)).mono ?_
          rintro e w4 ⟨A4, c4, l4, rfl, h4, m4, b4⟩
          go_wp2_with fail
          go_ret
          refine ⟨A4, c4, l4, rfl, h4, ?_, below_trans b0 (below_trans hb b4)⟩
          have := HLK.out
          omega
end Go.Proofs.YtjlfcnkndndgaaaDoor
