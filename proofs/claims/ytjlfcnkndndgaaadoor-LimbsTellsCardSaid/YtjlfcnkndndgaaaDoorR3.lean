/-
  The reference of layer 1: Cmp, Add, sub, Sub, told of numbers. Written by wip/gen/r3.py.
-/
import Derived.Test.YtjlfcnkndndgaaaDoorR2
namespace Te
theorem val_take_all {xs : List Nat} {i : Nat} (h : xs.length ≤ i) : val (xs.take i) = val xs := by rw [List.take_of_length_le h]
/-- Sums: i digits are told, cy is carried. -/
def AddI (xs ys ds : List Nat) (i cy : Nat) : Prop := Ok ds ∧ ds.length = i ∧ cy ≤ 1 ∧ val ds + 256 ^ i * cy = val (xs.take i) + val (ys.take i) ∧ (max xs.length ys.length < i → cy = 0)
theorem AddI.start (xs ys : List Nat) : AddI xs ys [] 0 0 := ⟨Ok.nil, rfl, by omega, by simp [val], fun _ => rfl⟩
theorem AddI.step {xs ys ds : List Nat} {i cy s : Nat} (h : AddI xs ys ds i cy) (hx : Ok xs) (hy : Ok ys) (hs : s = cy + Tw.dg xs i + Tw.dg ys i) : AddI xs ys (ds ++ [s % 256]) (i + 1) (s / 256) := by
  obtain ⟨h1, h2, h3, h4, h5⟩ := h
  have d1 : Tw.dg xs i < 256 := dg_lt hx i
  have d2 : Tw.dg ys i < 256 := dg_lt hy i
  refine ⟨h1.append (Ok.cons (by rw [B_eq]; omega) Ok.nil), by simp [h2], by omega, ?_, fun hm => ?_⟩
  · have e1 : val (xs.take (i + 1)) = val (xs.take i) + B ^ i * Tw.dg xs i := val_take_succ' xs i
    have e2 : val (ys.take (i + 1)) = val (ys.take i) + B ^ i * Tw.dg ys i := val_take_succ' ys i
    rw [e1, e2, val_snoc, h2, B_eq]
    have e3 : 256 ^ (i + 1) * (s / 256) = 256 ^ i * (256 * (s / 256)) := by rw [Nat.pow_succ, Nat.mul_assoc]
    have e4 : 256 ^ i * (s % 256) + 256 ^ i * (256 * (s / 256)) = 256 ^ i * s := by rw [← Nat.mul_add, Nat.mod_add_div]
    have e5 : 256 ^ i * s = 256 ^ i * cy + 256 ^ i * Tw.dg xs i + 256 ^ i * Tw.dg ys i := by rw [hs, Nat.mul_add, Nat.mul_add]
    omega
  · have z1 : Tw.dg xs i = 0 := Tw.dg_past (by omega)
    have z2 : Tw.dg ys i = 0 := Tw.dg_past (by omega)
    omega
theorem AddI.done {xs ys ds : List Nat} {i : Nat} (h : AddI xs ys ds i 0) (hx : xs.length ≤ i) (hy : ys.length ≤ i) : val ds = val xs + val ys := by
  obtain ⟨_, _, _, h4, _⟩ := h
  rw [val_take_all hx, val_take_all hy] at h4
  omega
/-- Differences: i digits are told, bw is borrowed. -/
def SubI (xs ys ds : List Nat) (i bw : Nat) : Prop := Ok ds ∧ ds.length = i ∧ bw ≤ 1 ∧ val ds + val (ys.take i) = val (xs.take i) + 256 ^ i * bw
theorem SubI.start (xs ys : List Nat) : SubI xs ys [] 0 0 := ⟨Ok.nil, rfl, by omega, by simp [val]⟩
theorem SubI.step {xs ys ds : List Nat} {i bw d b : Nat} (h : SubI xs ys ds i bw) (hd : d < 256) (hb : b ≤ 1) (hs : d + Tw.dg ys i + bw = Tw.dg xs i + 256 * b) : SubI xs ys (ds ++ [d]) (i + 1) b := by
  obtain ⟨h1, h2, h3, h4⟩ := h
  refine ⟨h1.append (Ok.cons (by rw [B_eq]; omega) Ok.nil), by simp [h2], hb, ?_⟩
  have e1 : val (xs.take (i + 1)) = val (xs.take i) + B ^ i * Tw.dg xs i := val_take_succ' xs i
  have e2 : val (ys.take (i + 1)) = val (ys.take i) + B ^ i * Tw.dg ys i := val_take_succ' ys i
  rw [e1, e2, val_snoc, h2, B_eq]
  have e3 : 256 ^ (i + 1) * b = 256 ^ i * (256 * b) := by rw [Nat.pow_succ, Nat.mul_assoc]
  have e5 : 256 ^ i * d + 256 ^ i * Tw.dg ys i + 256 ^ i * bw = 256 ^ i * Tw.dg xs i + 256 ^ i * (256 * b) := by rw [← Nat.mul_add, ← Nat.mul_add, ← Nat.mul_add, hs]
  omega
theorem SubI.done {xs ys ds : List Nat} {i bw : Nat} (h : SubI xs ys ds i bw) (hi : i = xs.length) (hx : Ok xs) (hy : Ok ys) (hle : val ys ≤ val xs) : val ds = val xs - val ys := by
  obtain ⟨h1, h2, h3, h4⟩ := h
  have hn : nl (val ys) ≤ i := by rw [hi]; exact Nat.le_trans (nl_mono hle) (nl_val hx)
  have e1 : val (ys.take i) = val ys := val_take_nl hy hn
  have e2 : val (xs.take i) = val xs := val_take_all (by omega)
  rw [e1, e2] at h4
  have h5 := val_lt h1
  rw [h2, B_eq] at h5
  obtain rfl | rfl : bw = 0 ∨ bw = 1 := by omega
  · omega
  · omega
end Te
namespace Go.Proofs.YtjlfcnkndndgaaaDoor
open Go.RowKit Tw

section
variable {w : World} {A A' : Option Addr} {c c' l l' n n' : Nat}
theorem small_v (h : V w A c l n) (hl : l ≤ 100000) : Calls Tryd.prog 36 #[.slice A l c] w (TellsD w n) := by
  obtain ⟨xs, h1, h2, h3⟩ := h
  exact small_any A c l n xs w h1 h2 h3 hl
theorem D.small (h : D w A c l n) (hn : n < B ^ l') : l ≤ 8 * l' := by
  rw [← h.2]
  exact Te.nl_le_of_lt (by rw [Te.B_eq, Nat.pow_mul]; exact hn)
theorem large_d (h : D w A c l n) (hl : l ≤ 800000) : Calls Tryd.prog 35 #[.slice A l c] w (Tells w n (l / 8 + 1)) := by
  obtain ⟨h1, h2⟩ := h
  have h3 := large_any A c l (Te.limbs n) w h1 (by rw [Te.val_limbs]; exact h2) (Lib.hid (by rw [Te.val_limbs, List.take_of_length_le (by show Te.nl n ≤ l; omega)])) (by show Te.nl n ≤ _; omega)
  have e : (Te.limbs n).length = l := h2
  rw [e, Te.val_limbs] at h3
  exact h3
theorem large_s {xs : List Nat} (h : Sm w A c xs) (hl : xs.length = l) (hn : Te.val xs = n) (hs : l ≤ 800000) : Calls Tryd.prog 35 #[.slice A l c] w (Tells w n (l / 8 + 1)) := by
  subst hl hn
  have h1 := Te.nl_val h.ok
  refine (large_any A c _ xs w h rfl (Lib.hid (Te.limbs_take h.ok)) hs).mono fun e w' ⟨A1, c1, l1, he, hc, hm, hb⟩ => ⟨A1, c1, l1, he, hc, ?_, hb⟩
  have : Te.nl (Te.val xs) / 8 ≤ xs.length / 8 := Nat.div_le_div_right h1
  omega
theorem cmp_r (h : V w A c l n) (h' : V w A' c' l' n') (hl : l ≤ 100000) (hl' : l' ≤ 100000) (z : Int) (hz : cmpI (n : Int) (n' : Int) = z) :
    Calls Tryd.prog 31 #[.slice A l c, .slice A' l' c'] w fun e w' => e = .returned (.int .i64 z) ∧ Below w.heap.size w w' := by
  have hn := h.lt
  have hn' := h'.lt
  have HZ := Lib.hid hz
  clear hz
  go_enter Tryd.func31, Tryd.ntmps31
  go_wp2_with fail
  refine (small_v h hl).mono ?_
  rintro e w1 ⟨A1, c1, l1, rfl, h1, b1⟩
  have s1 := h1.small hn
  go_wp2_with fail
  refine (small_v (h'.below b1) hl').mono ?_
  rintro e w2 ⟨A2, c2, l2, rfl, h2, b2⟩
  have s2 := h2.small hn'
  go_wp2_with fail
  refine (cmp8_d (h1.below b2) h2 (by omega) (by omega) z HZ).mono ?_
  rintro e w3 ⟨rfl, k, rfl⟩
  go_wp2_with fail
  go_ret
  exact ⟨rfl, below_trans (below_trans b1 b2) (below_drewN (Below.refl _ _) k)⟩
end

set_option maxHeartbeats 2000000 in
theorem add_r {w : World} {A A' : Option Addr} {c c' l l' n n' : Nat} (h : V w A c l n) (h' : V w A' c' l' n') (hl : l ≤ 50000) (hl' : l' ≤ 50000) :
    Calls Tryd.prog 28 #[.slice A l c, .slice A' l' c'] w (Tells w (n + n') (max l l' + 2)) := by
  obtain ⟨i0, hi, hz0, hz1, hz2⟩ := info_parts infoInt
  have hn := h.lt
  have hn' := h'.lt
  go_enter Tryd.func28, Tryd.ntmps28
  go_wp2_with fail
  refine (small_v h (by omega)).mono ?_
  rintro e w1 ⟨A1, c1, l1, rfl, h1, b1⟩
  have s1 := h1.small hn
  go_wp2_with fail
  refine (small_v (h'.below b1) (by omega)).mono ?_
  rintro e w2 ⟨A2, c2, l2, rfl, h2, b2⟩
  have s2 := h2.small hn'
  replace h1 := h1.below b2
  replace b2 := below_trans b1 b2
  clear h h' hn hn' b1
  obtain ⟨xs, hxs⟩ : ∃ xs, xs = Te.limbs n := ⟨_, rfl⟩
  obtain ⟨ys, hys⟩ : ∃ ys, ys = Te.limbs n' := ⟨_, rfl⟩
  have HX : Hid (Sm w2 A1 c1 xs ∧ xs.length = l1) := by rw [hxs]; exact h1
  have HY : Hid (Sm w2 A2 c2 ys ∧ ys.length = l2) := by rw [hys]; exact h2
  have HE : Hid (Te.val xs + Te.val ys = n + n') := by show _ = _; rw [hxs, hys, Te.val_limbs, Te.val_limbs]
  clear h1 h2 hxs hys
  have hg2 := b2.size
  go_wp2_with fail
  go_loopw [7, 8, 9] (fun v cy i wr => ∃ (k u : Nat) (ds : List Nat), k ≤ max l1 l2 + 1 ∧ i = .int .i64 k ∧ cy = .int .i64 u ∧ OwnS wr w2.heap.size v ds ∧ Te.AddI xs ys ds k u ∧ Below w2.heap.size w2 wr) (fun _ _ i _ => max l1 l2 + 1 - (intOf i).toNat)
  case atStart => exact ⟨0, 0, [], by omega, rfl, rfl, World.ownsRow_nil _ _ _ _, Te.AddI.start xs ys, Below.refl _ _⟩
  case round =>
    obtain ⟨k, u, ds, hk, rfl, rfl, hown, hai, hb⟩ := hrel
    have hlen : ds.length ≤ 900000 := by have := hai.2.1; omega
    have hz := hb.size
    have hu : u ≤ 1 := hai.2.2.1
    have d1 : dg xs k < 256 := Te.dg_lt HX.out.1.ok k
    have d2 : dg ys k < 256 := Te.dg_lt HY.out.1.ok k
    have HS := Lib.hid (fun s hs => hai.step (s := s) HX.out.1.ok HY.out.1.ok hs)
    have HK : Hid (max l1 l2 < k → u = 0) := by show _ → _; rw [← HX.out.2, ← HY.out.2]; exact hai.2.2.2.2
    by_cases hx : k < l1
    · by_cases hy : k < l2
      · skip
        obtain ⟨ba, oa, rfl, ca⟩ := (HX.out.1.below hb).cells (by rw [HX.out.2]; omega)
        replace ca := ca k (by rw [HX.out.2]; omega)
        obtain ⟨bb, ob, rfl, cb⟩ := (HY.out.1.below hb).cells (by rw [HY.out.2]; omega)
        replace cb := cb k (by rw [HY.out.2]; omega)
        clear hai
        go_wp2_with (at_builtin; refine wpList_append_own _ rfl _ _ 38 rfl w2.heap.size 3 i0 (.int .i64 0) 1 8 Tryd.underlying38 hi hz0 hz1 hz2 rfl (by decide) _ _ _ rfl (hown.alloc _) ⟨_, 0, none⟩ 1 1 [.int .i64 (((u : Int) + ((dg xs k : Nat) : Int) + ((dg ys k : Nat) : Int)) % 256)] rfl rfl (one_news _ _ _) (one_int _ _) (len_bd hlen) (byte_bd hlen) (base_bd hz _) ?_; intro v' w1 hown' hgrow _)
        have hb1 := own_grow hb hz hown hgrow
        have ho1 := own_snoc ((u + dg xs k + dg ys k) % 256) hown' (by omega)
        clear hown hown' hgrow hb
        go_wp2_with fail
        go_roundw
        case rel => exact ⟨k + 1, (u + dg xs k + dg ys k) / 256, _, by omega, by go_num, by go_num, ho1, HS.out _ (by omega), hb1⟩
        case measure => simp [intOf]; omega
      · skip
        obtain ⟨ba, oa, rfl, ca⟩ := (HX.out.1.below hb).cells (by rw [HX.out.2]; omega)
        replace ca := ca k (by rw [HX.out.2]; omega)
        have zy : Hid (dg ys k = 0) := Lib.hid (Tw.dg_past (by rw [HY.out.2]; omega))
        clear hai
        go_wp2_with (at_builtin; refine wpList_append_own _ rfl _ _ 38 rfl w2.heap.size 3 i0 (.int .i64 0) 1 8 Tryd.underlying38 hi hz0 hz1 hz2 rfl (by decide) _ _ _ rfl (hown.alloc _) ⟨_, 0, none⟩ 1 1 [.int .i64 (((u : Int) + ((dg xs k : Nat) : Int)) % 256)] rfl rfl (one_news _ _ _) (one_int _ _) (len_bd hlen) (byte_bd hlen) (base_bd hz _) ?_; intro v' w1 hown' hgrow _)
        have hb1 := own_grow hb hz hown hgrow
        have ho1 := own_snoc ((u + dg xs k) % 256) hown' (by omega)
        clear hown hown' hgrow hb
        go_wp2_with fail
        go_roundw
        case rel => exact ⟨k + 1, (u + dg xs k) / 256, _, by omega, by go_num, by go_num, ho1, HS.out _ (by have := zy.out; omega), hb1⟩
        case measure => simp [intOf]; omega
    · by_cases hy : k < l2
      · skip
        obtain ⟨bb, ob, rfl, cb⟩ := (HY.out.1.below hb).cells (by rw [HY.out.2]; omega)
        replace cb := cb k (by rw [HY.out.2]; omega)
        have zx : Hid (dg xs k = 0) := Lib.hid (Tw.dg_past (by rw [HX.out.2]; omega))
        clear hai
        go_wp2_with (at_builtin; refine wpList_append_own _ rfl _ _ 38 rfl w2.heap.size 3 i0 (.int .i64 0) 1 8 Tryd.underlying38 hi hz0 hz1 hz2 rfl (by decide) _ _ _ rfl (hown.alloc _) ⟨_, 0, none⟩ 1 1 [.int .i64 (((u : Int) + ((dg ys k : Nat) : Int)) % 256)] rfl rfl (one_news _ _ _) (one_int _ _) (len_bd hlen) (byte_bd hlen) (base_bd hz _) ?_; intro v' w1 hown' hgrow _)
        have hb1 := own_grow hb hz hown hgrow
        have ho1 := own_snoc ((u + dg ys k) % 256) hown' (by omega)
        clear hown hown' hgrow hb
        go_wp2_with fail
        go_roundw
        case rel => exact ⟨k + 1, (u + dg ys k) / 256, _, by omega, by go_num, by go_num, ho1, HS.out _ (by have := zx.out; omega), hb1⟩
        case measure => simp [intOf]; omega
      · have zx : dg xs k = 0 := Tw.dg_past (by rw [HX.out.2]; omega)
        have zy : dg ys k = 0 := Tw.dg_past (by rw [HY.out.2]; omega)
        rcases Nat.eq_zero_or_pos u with rfl | hu0
        · have hval : Te.val ds = n + n' := by rw [← HE.out]; exact hai.done (by rw [HX.out.2]; omega) (by rw [HY.out.2]; omega)
          obtain ⟨A3, c3, rfl, hsm⟩ := hown.sm hai.1
          have HV := Lib.hid hval
          have hlk : ds.length = k := hai.2.1
          have HLK := Lib.hid hlk
          clear hown hai zx zy HS HK hval hlk
          go_wp2_with fail
          refine (large_s hsm rfl HV.out (by have := HLK.out; omega)).mono ?_
          rintro e w4 ⟨A4, c4, l4, rfl, h4, m4, b4⟩
          go_wp2_with fail
          go_ret
          refine ⟨A4, c4, l4, rfl, h4, ?_, below_trans b2 (below_trans hb b4)⟩
          have := HLK.out
          omega
        · obtain rfl : u = 1 := by omega
          have hkm : k ≤ max l1 l2 := by
            rcases Nat.lt_or_ge (max l1 l2) k with hh | hh
            · have := HK.out hh; omega
            · exact hh
          clear zx zy
          have zx : Hid (dg xs k = 0) := Lib.hid (Tw.dg_past (by rw [HX.out.2]; omega))
          have zy : Hid (dg ys k = 0) := Lib.hid (Tw.dg_past (by rw [HY.out.2]; omega))
          clear hai
          go_wp2_with (at_builtin; refine wpList_append_own _ rfl _ _ 38 rfl w2.heap.size 3 i0 (.int .i64 0) 1 8 Tryd.underlying38 hi hz0 hz1 hz2 rfl (by decide) _ _ _ rfl (hown.alloc _) ⟨_, 0, none⟩ 1 1 [.int .i64 ((1) % 256)] rfl rfl (one_news _ _ _) (one_int _ _) (len_bd hlen) (byte_bd hlen) (base_bd hz _) ?_; intro v' w1 hown' hgrow _)
          have hb1 := own_grow hb hz hown hgrow
          have ho1 := own_snoc (1 % 256) hown' (by omega)
          clear hown hown' hgrow hb
          go_wp2_with fail
          go_roundw
          case rel => exact ⟨k + 1, 1 / 256, _, by omega, by go_num, by go_num, ho1, HS.out _ (by have := zx.out; have := zy.out; omega), hb1⟩
          case measure => simp [intOf]; omega

set_option maxHeartbeats 2000000 in
theorem sub8_n {w : World} {A1 A2 : Option Addr} {c1 c2 l1 l2 n n' : Nat} (h1 : D w A1 c1 l1 n) (h2 : D w A2 c2 l2 n') (hl : l1 ≤ 800000) (hl' : l2 ≤ 800000) (hle : n' ≤ n) :
    Calls Tryd.prog 82 #[.slice A1 l1 c1, .slice A2 l2 c2] w (TellsN w (n - n')) := by
  obtain ⟨i0, hi, hz0, hz1, hz2⟩ := info_parts infoInt
  obtain ⟨xs, hxs⟩ : ∃ xs, xs = Te.limbs n := ⟨_, rfl⟩
  obtain ⟨ys, hys⟩ : ∃ ys, ys = Te.limbs n' := ⟨_, rfl⟩
  have HX : Hid (Sm w A1 c1 xs ∧ xs.length = l1) := by rw [hxs]; exact h1
  have HY : Hid (Sm w A2 c2 ys ∧ ys.length = l2) := by rw [hys]; exact h2
  have HE : Hid (Te.val xs - Te.val ys = n - n' ∧ Te.val ys ≤ Te.val xs) := by show _ ∧ _; rw [hxs, hys, Te.val_limbs, Te.val_limbs]; exact ⟨rfl, hle⟩
  clear h1 h2 hxs hys hle
  go_enter Tryd.func82, Tryd.ntmps82
  go_wp2_with fail
  go_loopw [5, 6, 7] (fun v bw i wr => ∃ (k u : Nat) (ds : List Nat), k ≤ l1 ∧ i = .int .i64 k ∧ bw = .int .i64 u ∧ OwnS wr w.heap.size v ds ∧ Te.SubI xs ys ds k u ∧ Below w.heap.size w wr) (fun _ _ i _ => l1 - (intOf i).toNat)
  case atStart => exact ⟨0, 0, [], by omega, rfl, rfl, World.ownsRow_nil _ _ _ _, Te.SubI.start xs ys, Below.refl _ _⟩
  case round =>
    obtain ⟨k, u, ds, hk, rfl, rfl, hown, hsi, hb⟩ := hrel
    by_cases hx : k < l1
    · have hlen : ds.length ≤ 900000 := by have := hsi.2.1; omega
      have hz := hb.size
      have hu : u ≤ 1 := hsi.2.2.1
      have d1 : dg xs k < 256 := Te.dg_lt HX.out.1.ok k
      have d2 : dg ys k < 256 := Te.dg_lt HY.out.1.ok k
      have HS := Lib.hid (fun d b h1 h2 h3 => hsi.step (d := d) (b := b) h1 h2 h3)
      obtain ⟨ba, oa, rfl, ca⟩ := (HX.out.1.below hb).cells (by rw [HX.out.2]; omega)
      replace ca := ca k (by rw [HX.out.2]; omega)
      by_cases hy : k < l2
      · by_cases hng : dg xs k < u + dg ys k
        · skip
          obtain ⟨bb, ob, rfl, cb⟩ := (HY.out.1.below hb).cells (by rw [HY.out.2]; omega)
          replace cb := cb k (by rw [HY.out.2]; omega)
          clear hsi
          go_wp2_with (at_builtin; refine wpList_append_own _ rfl _ _ 38 rfl w.heap.size 3 i0 (.int .i64 0) 1 8 Tryd.underlying38 hi hz0 hz1 hz2 rfl (by decide) _ _ _ rfl (hown.alloc _) ⟨_, 0, none⟩ 1 1 [.int .i64 (((dg xs k : Nat) : Int) - (u : Int) - ((dg ys k : Nat) : Int) + 256)] rfl rfl (one_news _ _ _) (one_int _ _) (len_bd hlen) (byte_bd hlen) (base_bd hz _) ?_; intro v' w1 hown' hgrow _)
          have hb1 := own_grow hb hz hown hgrow
          have ho1 := own_snoc (dg xs k + 256 - u - dg ys k) hown' (by omega)
          clear hown hown' hgrow hb
          go_wp2_with fail
          go_roundw
          case rel => exact ⟨k + 1, 1, _, by omega, by go_num, rfl, ho1, HS.out _ _ (by omega) (by omega) (by omega), hb1⟩
          case measure => simp [intOf]; omega
        · skip
          obtain ⟨bb, ob, rfl, cb⟩ := (HY.out.1.below hb).cells (by rw [HY.out.2]; omega)
          replace cb := cb k (by rw [HY.out.2]; omega)
          clear hsi
          go_wp2_with (at_builtin; refine wpList_append_own _ rfl _ _ 38 rfl w.heap.size 3 i0 (.int .i64 0) 1 8 Tryd.underlying38 hi hz0 hz1 hz2 rfl (by decide) _ _ _ rfl (hown.alloc _) ⟨_, 0, none⟩ 1 1 [.int .i64 (((dg xs k : Nat) : Int) - (u : Int) - ((dg ys k : Nat) : Int))] rfl rfl (one_news _ _ _) (one_int _ _) (len_bd hlen) (byte_bd hlen) (base_bd hz _) ?_; intro v' w1 hown' hgrow _)
          have hb1 := own_grow hb hz hown hgrow
          have ho1 := own_snoc (dg xs k - u - dg ys k) hown' (by omega)
          clear hown hown' hgrow hb
          go_wp2_with fail
          go_roundw
          case rel => exact ⟨k + 1, 0, _, by omega, by go_num, rfl, ho1, HS.out _ _ (by omega) (by omega) (by omega), hb1⟩
          case measure => simp [intOf]; omega
      · by_cases hng : dg xs k < u
        · skip
          have zy : Hid (dg ys k = 0) := Lib.hid (Tw.dg_past (by rw [HY.out.2]; omega))
          clear hsi
          go_wp2_with (at_builtin; refine wpList_append_own _ rfl _ _ 38 rfl w.heap.size 3 i0 (.int .i64 0) 1 8 Tryd.underlying38 hi hz0 hz1 hz2 rfl (by decide) _ _ _ rfl (hown.alloc _) ⟨_, 0, none⟩ 1 1 [.int .i64 (((dg xs k : Nat) : Int) - (u : Int) + 256)] rfl rfl (one_news _ _ _) (one_int _ _) (len_bd hlen) (byte_bd hlen) (base_bd hz _) ?_; intro v' w1 hown' hgrow _)
          have hb1 := own_grow hb hz hown hgrow
          have ho1 := own_snoc (dg xs k + 256 - u) hown' (by omega)
          clear hown hown' hgrow hb
          go_wp2_with fail
          go_roundw
          case rel => exact ⟨k + 1, 1, _, by omega, by go_num, rfl, ho1, HS.out _ _ (by omega) (by omega) (by have := zy.out; omega), hb1⟩
          case measure => simp [intOf]; omega
        · skip
          have zy : Hid (dg ys k = 0) := Lib.hid (Tw.dg_past (by rw [HY.out.2]; omega))
          clear hsi
          go_wp2_with (at_builtin; refine wpList_append_own _ rfl _ _ 38 rfl w.heap.size 3 i0 (.int .i64 0) 1 8 Tryd.underlying38 hi hz0 hz1 hz2 rfl (by decide) _ _ _ rfl (hown.alloc _) ⟨_, 0, none⟩ 1 1 [.int .i64 (((dg xs k : Nat) : Int) - (u : Int))] rfl rfl (one_news _ _ _) (one_int _ _) (len_bd hlen) (byte_bd hlen) (base_bd hz _) ?_; intro v' w1 hown' hgrow _)
          have hb1 := own_grow hb hz hown hgrow
          have ho1 := own_snoc (dg xs k - u) hown' (by omega)
          clear hown hown' hgrow hb
          go_wp2_with fail
          go_roundw
          case rel => exact ⟨k + 1, 0, _, by omega, by go_num, rfl, ho1, HS.out _ _ (by omega) (by omega) (by have := zy.out; omega), hb1⟩
          case measure => simp [intOf]; omega
    · obtain rfl : k = l1 := by omega
      have hval : Te.val ds = n - n' := by rw [← HE.out.1]; exact hsi.done HX.out.2.symm HX.out.1.ok HY.out.1.ok HE.out.2
      obtain ⟨A3, c3, rfl, hsm⟩ := hown.sm hsi.1
      have HV := Lib.hid hval
      have hlk : ds.length ≤ 8000000 := by have := hsi.2.1; omega
      have HW := Lib.hid hown.new
      clear hown hsi hval
      go_wp2_with fail
      refine (trim8_any A3 c3 ds _ hsm hlk).mono ?_
      rintro e _ ⟨rfl, rfl⟩
      go_wp2_with fail
      go_ret
      have h1 := hsm.front (Te.nl (Te.val ds))
      rw [Te.limbs_take hsm.ok, HV.out] at h1
      exact ⟨A3, c3, Te.nl (n - n'), ret_sl (by rw [HV.out]), ⟨h1, rfl⟩, hb, HW.out⟩
theorem sub8_d {w : World} {A1 A2 : Option Addr} {c1 c2 l1 l2 n n' : Nat} (h1 : D w A1 c1 l1 n) (h2 : D w A2 c2 l2 n') (hl : l1 ≤ 800000) (hl' : l2 ≤ 800000) (hle : n' ≤ n) :
    Calls Tryd.prog 82 #[.slice A1 l1 c1, .slice A2 l2 c2] w (TellsD w (n - n')) := (sub8_n h1 h2 hl hl' hle).mono fun _ _ h => h.d

theorem nums_none (w : World) : C w none 0 0 0 := ⟨by rw [limbs_zero]; exact Nums.nil _ _ _, rfl⟩
theorem sub_r {w : World} {A A' : Option Addr} {c c' l l' n n' : Nat} (h : V w A c l n) (h' : V w A' c' l' n') (hl : l ≤ 50000) (hl' : l' ≤ 50000) :
    Calls Tryd.prog 29 #[.slice A l c, .slice A' l' c'] w (Tells w (n - n') (l + 1)) := by
  have hn := h.lt
  have hn' := h'.lt
  obtain ⟨z, hz⟩ : ∃ z, cmpI (n : Int) (n' : Int) = z := ⟨_, rfl⟩
  have HZ := Lib.hid hz
  by_cases hlt : n < n'
  · have t1 : decide (z < 0) = true := by rw [← hz, cmpI_nat_lt hlt]; rfl
    have HE : Hid (n - n' = 0) := Lib.hid (by omega)
    clear hz hlt
    go_enter Tryd.func29, Tryd.ntmps29
    go_wp2_with fail
    refine (small_v h (by omega)).mono ?_
    rintro e w1 ⟨A1, c1, l1, rfl, h1, b1⟩
    have s1 := h1.small hn
    go_wp2_with fail
    refine (small_v (h'.below b1) (by omega)).mono ?_
    rintro e w2 ⟨A2, c2, l2, rfl, h2, b2⟩
    have s2 := h2.small hn'
    replace h1 := h1.below b2
    replace b2 := below_trans b1 b2
    clear h h' hn hn' b1
    go_wp2_with fail
    refine (cmp8_d h1 h2 (by omega) (by omega) z HZ).mono ?_
    rintro e w3 ⟨rfl, k, rfl⟩
    go_wp2_with fail
    go_ret
    exact ⟨none, 0, 0, rfl, by rw [HE.out]; exact nums_none _, by omega, below_trans b2 (below_drewN (Below.refl _ _) k)⟩
  · have t1 : decide (z < 0) = false := by
      rw [← hz]; unfold cmpI; rw [if_neg (by omega)]; split <;> rfl
    have hle : n' ≤ n := by omega
    clear hz hlt
    go_enter Tryd.func29, Tryd.ntmps29
    go_wp2_with fail
    refine (small_v h (by omega)).mono ?_
    rintro e w1 ⟨A1, c1, l1, rfl, h1, b1⟩
    have s1 := h1.small hn
    go_wp2_with fail
    refine (small_v (h'.below b1) (by omega)).mono ?_
    rintro e w2 ⟨A2, c2, l2, rfl, h2, b2⟩
    have s2 := h2.small hn'
    replace h1 := h1.below b2
    replace b2 := below_trans b1 b2
    have hlt : n - n' < B ^ l := by omega
    clear h h' hn hn' b1
    go_wp2_with fail
    refine (cmp8_d h1 h2 (by omega) (by omega) z HZ).mono ?_
    rintro e w3 ⟨rfl, k, rfl⟩
    have b3 := below_drewN (Below.refl w2.heap.size w2) k
    go_wp2_with fail
    refine (sub8_d (h1.below b3) (h2.below b3) (by omega) (by omega) hle).mono ?_
    rintro e w4 ⟨A4, c4, l4, rfl, h4, b4⟩
    have s4 := h4.small hlt
    go_wp2_with fail
    refine (large_d h4 (by omega)).mono ?_
    rintro e w5 ⟨A5, c5, l5, rfl, h5, m5, b5⟩
    go_wp2_with fail
    go_ret
    exact ⟨A5, c5, l5, rfl, h5, by omega, below_trans (below_trans b2 b3) (below_trans b4 b5)⟩
end Go.Proofs.YtjlfcnkndndgaaaDoor
