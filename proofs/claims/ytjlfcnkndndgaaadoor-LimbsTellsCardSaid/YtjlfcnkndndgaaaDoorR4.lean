/-
  The reference of layer 1: twice, Shl, told of numbers. Written by wip/gen/r4.py.
-/
import Derived.Test.YtjlfcnkndndgaaaDoorR3
import Derived.Test.YtjlfcnkndndgaaaDoorShiftB
namespace Te
def TwI (xs ds : List Nat) (t i b : Nat) : Prop := Ok ds ∧ ds.length = i ∧ b ≤ 1 ∧ val ds + 256 ^ i * b = 2 * val (xs.take i) + t
theorem TwI.start (xs : List Nat) {t : Nat} (h : t ≤ 1) : TwI xs [] t 0 t := ⟨Ok.nil, rfl, h, by simp [val]⟩
theorem TwI.step {xs ds : List Nat} {t i b s : Nat} (h : TwI xs ds t i b) (hx : Ok xs) (hs : s = 2 * Tw.dg xs i + b) : TwI xs (ds ++ [s % 256]) t (i + 1) (s / 256) := by
  obtain ⟨h1, h2, h3, h4⟩ := h
  have d1 : Tw.dg xs i < 256 := dg_lt hx i
  refine ⟨h1.append (Ok.cons (by rw [B_eq]; omega) Ok.nil), by simp [h2], by omega, ?_⟩
  have e1 : val (xs.take (i + 1)) = val (xs.take i) + B ^ i * Tw.dg xs i := val_take_succ' xs i
  rw [e1, val_snoc, h2, B_eq]
  have e3 : 256 ^ (i + 1) * (s / 256) = 256 ^ i * (256 * (s / 256)) := by rw [Nat.pow_succ, Nat.mul_assoc]
  have e4 : 256 ^ i * (s % 256) + 256 ^ i * (256 * (s / 256)) = 256 ^ i * s := by rw [← Nat.mul_add, Nat.mod_add_div]
  have e5 : 256 ^ i * s = 2 * (256 ^ i * Tw.dg xs i) + 256 ^ i * b := by rw [hs, Nat.mul_add, Nat.mul_left_comm]
  omega
theorem TwI.done {xs ds : List Nat} {t i b : Nat} (h : TwI xs ds t i b) (hi : xs.length ≤ i) : Ok (ds ++ [b]) ∧ val (ds ++ [b]) = 2 * val xs + t := by
  obtain ⟨h1, h2, h3, h4⟩ := h
  refine ⟨h1.append (Ok.cons (by rw [B_eq]; omega) Ok.nil), ?_⟩
  rw [val_snoc, h2, B_eq, h4, List.take_of_length_le hi]
theorem limbs_shift {n : Nat} (h : n ≠ 0) : limbs (n * 256) = 0 :: limbs n := by
  have e : limbs (n * 256) = (n * 256) % B :: limbs (n * 256 / B) := limbs_pos (by omega)
  rw [e, B_eq, Nat.mul_mod_left, Nat.mul_div_cancel _ (by omega)]
end Te
namespace Go.Proofs.YtjlfcnkndndgaaaDoor
open Go.RowKit Tw

set_option maxHeartbeats 2000000 in
theorem twice_n {w : World} {A : Option Addr} {c l n : Nat} (h : D w A c l n) (hl : l ≤ 800000) (t : Nat) (ht : t ≤ 1) :
    Calls Tryd.prog 80 #[.slice A l c, .int .i64 (t : Int)] w (TellsN w (2 * n + t)) := by
  obtain ⟨i0, hi, hz0, hz1, hz2⟩ := info_parts infoInt
  obtain ⟨xs, hxs⟩ : ∃ xs, xs = Te.limbs n := ⟨_, rfl⟩
  have HX : Hid (Sm w A c xs ∧ xs.length = l) := by rw [hxs]; exact h
  have HE : Hid (Te.val xs = n) := by show _ = _; rw [hxs, Te.val_limbs]
  clear h hxs
  go_enter Tryd.func80, Tryd.ntmps80
  go_wp2_with fail
  go_loopw [1, 5, 6] (fun b v i wr => ∃ (k u : Nat) (ds : List Nat), k ≤ l ∧ i = .int .i64 k ∧ b = .int .i64 u ∧ OwnS wr w.heap.size v ds ∧ Te.TwI xs ds t k u ∧ Below w.heap.size w wr) (fun _ _ i _ => l - (intOf i).toNat)
  case atStart => exact ⟨0, t, [], by omega, rfl, rfl, World.ownsRow_nil _ _ _ _, Te.TwI.start xs ht, Below.refl _ _⟩
  case round =>
    obtain ⟨k, u, ds, hk, rfl, rfl, hown, hti, hb⟩ := hrel
    have hlen : ds.length ≤ 900000 := by have := hti.2.1; omega
    have hz := hb.size
    have hu : u ≤ 1 := hti.2.2.1
    by_cases hx : k < l
    · have d1 : dg xs k < 256 := Te.dg_lt HX.out.1.ok k
      have HS := Lib.hid (fun s hs => hti.step (s := s) HX.out.1.ok hs)
      obtain ⟨ba, oa, rfl, ca⟩ := (HX.out.1.below hb).cells (by rw [HX.out.2]; omega)
      replace ca := ca k (by rw [HX.out.2]; omega)
      clear hti
      go_wp2_with (at_builtin; refine wpList_append_own _ rfl _ _ 38 rfl w.heap.size 3 i0 (.int .i64 0) 1 8 Tryd.underlying38 hi hz0 hz1 hz2 rfl (by decide) _ _ _ rfl (hown.alloc _) ⟨_, 0, none⟩ 1 1 [.int .i64 ((2 * ((dg xs k : Nat) : Int) + (u : Int)) % 256)] rfl rfl (one_news _ _ _) (one_int _ _) (len_bd hlen) (byte_bd hlen) (base_bd hz _) ?_; intro v' w1 hown' hgrow _)
      have hb1 := own_grow hb hz hown hgrow
      have ho1 := own_snoc ((2 * dg xs k + u) % 256) hown' (by omega)
      clear hown hown' hgrow hb
      go_wp2_with fail
      go_roundw
      case rel => exact ⟨k + 1, (2 * dg xs k + u) / 256, _, by omega, by go_num, by go_num, ho1, HS.out _ rfl, hb1⟩
      case measure => simp [intOf]; omega
    · obtain rfl : k = l := by omega
      obtain ⟨f1, f2⟩ := hti.done (by rw [HX.out.2]; omega)
      have HV : Hid (Te.val (ds ++ [u]) = 2 * n + t) := by show _ = _; rw [f2, HE.out]
      have HO := Lib.hid f1
      clear hti f1 f2
      go_wp2_with (at_builtin; refine wpList_append_own _ rfl _ _ 38 rfl w.heap.size 3 i0 (.int .i64 0) 1 8 Tryd.underlying38 hi hz0 hz1 hz2 rfl (by decide) _ _ _ rfl (hown.alloc _) ⟨_, 0, none⟩ 1 1 [.int .i64 ((u : Int))] rfl rfl (one_news _ _ _) (one_int _ _) (len_bd hlen) (byte_bd hlen) (base_bd hz _) ?_; intro v' w1 hown' hgrow _)
      have hb1 := own_grow hb hz hown hgrow
      have ho1 := own_snoc u hown' rfl
      obtain ⟨A3, c3, e3, hsm⟩ := ho1.sm HO.out
      subst e3
      have hlk : (ds ++ [u]).length ≤ 8000000 := by simp; omega
      have HW := Lib.hid ho1.new
      clear hown hown' hgrow hb ho1
      go_wp2_with fail
      refine (trim8_any A3 c3 (ds ++ [u]) _ hsm hlk).mono ?_
      rintro e _ ⟨rfl, rfl⟩
      go_wp2_with fail
      go_ret
      have h1 := hsm.front (Te.nl (Te.val (ds ++ [u])))
      rw [Te.limbs_take hsm.ok, HV.out] at h1
      exact ⟨A3, c3, Te.nl (2 * n + t), ret_sl (by rw [HV.out]), ⟨h1, rfl⟩, hb1, HW.out⟩
theorem twice_d {w : World} {A : Option Addr} {c l n : Nat} (h : D w A c l n) (hl : l ≤ 800000) (t : Nat) (ht : t ≤ 1) :
    Calls Tryd.prog 80 #[.slice A l c, .int .i64 (t : Int)] w (TellsD w (2 * n + t)) := (twice_n h hl t ht).mono fun _ _ h => h.d

theorem lit0_own {B : Nat} (w : World) (hB : B ≤ w.heap.size) : (w.alloc (.cells #[.int .i64 0] 3)).ownsRow B 3 1 (.slice (some ⟨w.heap.size, 0, none⟩) 1 1) 1 [.int .i64 0] :=
  ⟨rfl, .inr ⟨w.heap.size, 1, #[.int .i64 0], rfl, hB, heap_alloc_new _ _, Nat.le_refl _, by unfold maxLen; omega, rfl, rfl⟩⟩
theorem sm_news {w : World} {b off c : Nat} {xs : List Nat} (h : Sm w (some ⟨b, off, none⟩) c xs) : ∀ j u, (xs.map fun (d : Nat) => Value.int .i64 (d : Int))[j]? = some u → w.cell? ((⟨b, off, none⟩ : Addr).add j) = some u := fun j u hu => by
  have hj : j < xs.length := by
    rcases Nat.lt_or_ge j xs.length with h1 | h1
    · exact h1
    · rw [List.getElem?_eq_none (by simpa using h1)] at hu; cases hu
  obtain ⟨b', off', e, hc⟩ := h.cells (by omega)
  cases e
  rw [List.getElem?_map, dg_get hj] at hu
  have e2 : (⟨b, off, none⟩ : Addr).add j = ⟨b, off + j, none⟩ := by
    unfold Addr.add
    split <;> simp_all
  rw [e2, hc j hj]
  exact hu
theorem ints_one (xs : List Nat) : ∀ u ∈ (xs.map fun (d : Nat) => Value.int .i64 (d : Int)), u.oneCell' = true := fun u h => by
  obtain ⟨d, _, rfl⟩ := List.mem_map.1 h
  rfl
theorem D.lt {w : World} {A : Option Addr} {c l n k : Nat} (h : D w A c l n) (hn : n < 256 ^ k) : l ≤ k := by
  rw [← h.2]; exact Te.nl_le_of_lt (by rw [Te.B_eq]; exact hn)
theorem D.zero {w : World} {A : Option Addr} {c n : Nat} (h : D w A c 0 n) : n = 0 := Te.nl_eq_zero.1 h.2
theorem D.pos {w : World} {A : Option Addr} {c l n : Nat} (h : D w A c l n) (hl : 0 < l) : n ≠ 0 := by
  rintro rfl
  have := h.2
  rw [Te.nl_zero] at this
  omega
theorem pow_shift (a k : Nat) {l : Nat} (ha : a < B ^ l) : a * 256 ^ k < 256 ^ (8 * l + k) := by
  rw [Nat.pow_add]
  refine Nat.mul_lt_mul_of_pos_right ?_ (Nat.pow_pos (by omega))
  rw [Nat.pow_mul]; exact ha
theorem shl_big {w : World} {A : Option Addr} {c l : Nat} {z : Int} (hz : 1048576 < z) :
    Calls Tryd.prog 33 #[.slice A l c, .int .i64 z] w (Tells w 0 0) := by
  go_enter Tryd.func33, Tryd.ntmps33
  go_wp2_with fail
  go_ret
  exact ⟨none, 0, 0, rfl, nums_none _, Nat.le_refl _, Below.refl _ _⟩
set_option maxHeartbeats 4000000 in
theorem shl_small {w : World} {A : Option Addr} {c l a : Nat} {z : Int} (h : V w A c l a) (hl : l ≤ 50000) (hz : z ≤ 1048576) (hz' : -9223372036854775808 ≤ z) :
    Calls Tryd.prog 33 #[.slice A l c, .int .i64 z] w (Tells w (a * 2 ^ z.toNat) (l + 16386)) := by
  obtain ⟨i0, hi, hz0, hz1, hz2⟩ := info_parts infoInt
  have hn := h.lt
  go_enter Tryd.func33, Tryd.ntmps33
  go_wp2_with fail
  refine (small_v h (by omega)).mono ?_
  rintro e w0 ⟨A0, c0, l0, rfl, h0, b0⟩
  have s0 := h0.small hn
  have HN := Lib.hid hn
  clear h hn
  go_wp2_with fail
  go_loopw [1, 5] (fun m x wr => ∃ (k A1 c1 l1 : _), m = .int .i64 (z - 8 * (k : Nat)) ∧ (k = 0 ∨ 8 * (k : Int) ≤ z) ∧ x = .slice A1 l1 c1 ∧ D wr A1 c1 l1 (a * 256 ^ k) ∧ l1 ≤ 8 * l + k ∧ Below w0.heap.size w0 wr) (fun m _ _ => (intOf m).toNat)
  case atStart => exact ⟨0, A0, c0, l0, by simp, .inl rfl, rfl, by simpa using h0, by omega, Below.refl _ _⟩
  case round =>
    clear h0 s0
    obtain ⟨k, A1, c1, l1, rfl, hk, rfl, h1, s1, b1⟩ := hrel
    have hkb : k ≤ 131072 := by omega
    by_cases hgo : 8 ≤ z - 8 * (k : Int) ∧ 0 < l1
    · obtain ⟨hg1, hg2⟩ := hgo
      have hsz := b1.size
      have hne := h1.pos hg2
      obtain ⟨b, off, rfl, hcell⟩ := h1.1.cells (by show 0 < Te.nl _; rw [h1.2]; exact hg2)
      clear hcell
      have hsm := h1.1.below (lit_below wr (.cells #[.int .i64 0] 3))
      have HL : Hid ((Te.limbs (a * 256 ^ k)).length = l1) := h1.2
      have q3 : 1 + l1 ≤ maxLen := by unfold maxLen; omega
      have q4 : (1 + l1) * 8 ≤ 140737488355328 := by omega
      have q5 : ((Te.limbs (a * 256 ^ k)).map fun (d : Nat) => Value.int .i64 (d : Int)).length = l1 * 1 := by rw [List.length_map, HL.out]; omega
      have Q5 := Lib.hid q5
      have HD := Lib.hid (sm_news hsm)
      have HB := Lib.hid b1
      clear q5 hsm h1 b1
      go_wp2_with (at_builtin; refine wpList_append_own _ rfl _ _ 38 rfl w0.heap.size 3 i0 (.int .i64 0) 1 8 Tryd.underlying38 hi hz0 hz1 hz2 rfl (by decide) _ _ _ rfl (lit0_own wr hsz) ⟨b, off, none⟩ l1 c1 _ rfl Q5.out HD.out (ints_one _) q3 q4 (base_bd hsz _) ?_; intro v' w1 hown' hgrow _)
      have hb1 : Below w0.heap.size w0 w1 := (HB.out.alloc hsz _).grown hgrow (by simp; omega) (fun j hj => by cases hj; exact hsz)
      have ho1 : OwnS w1 w0.heap.size v' (Te.limbs (a * 256 ^ (k + 1))) := by
        rw [Nat.pow_succ, ← Nat.mul_assoc, Te.limbs_shift hne]
        unfold OwnS
        rw [List.length_cons, HL.out, Nat.add_comm]
        simpa using hown'
      obtain ⟨A2, c2, e2, hsm2⟩ := ho1.sm (Te.ok_limbs _)
      subst e2
      have hd2 : D w1 A2 c2 (Te.limbs (a * 256 ^ (k + 1))).length (a * 256 ^ (k + 1)) := ⟨hsm2, rfl⟩
      have s2 := hd2.lt (pow_shift a (k + 1) HN.out)
      have HD2 := Lib.hid hd2
      clear hown' hgrow ho1 HD HB hsm2 hd2
      go_wp2_with fail
      go_roundw
      case rel => exact ⟨k + 1, A2, c2, _, by rw [show z - 8 * ((k + 1 : Nat) : Int) = z - 8 * (k : Int) - 8 from by omega], .inr (by omega), rfl, HD2.out, by omega, hb1⟩
      case measure => simp [intOf]; omega
    · have HD := Lib.hid h1
      have HB := Lib.hid b1
      obtain ⟨y, hy⟩ : ∃ y, y = z - 8 * (k : Int) := ⟨_, rfl⟩
      rw [← hy]
      have HYZ := Lib.hid hy
      have hy1 : y < 8 ∨ l1 = 0 := by omega
      have hy2 : -9223372036854775808 ≤ y ∧ y ≤ 1048576 := by omega
      have hy3 : y < 8 ∨ l1 = 0 := hy1
      clear h1 b1 hgo hy
      obtain ⟨wo, rfl⟩ : ∃ wo : World, wo = wr := ⟨_, rfl⟩
      have HZ1 : Hid (l1 = 0 → a = 0) := by
        show _ → _
        rintro rfl
        have := HD.out.zero
        rcases Nat.mul_eq_zero.1 this with h | h
        · exact h
        · exact absurd h (Nat.ne_of_gt (Nat.pow_pos (by omega)))
      have hsp : y < 8 ∨ (8 ≤ y ∧ l1 ≤ 0) := by omega
      clear hy1
      rcases hsp with hsp | ⟨hsp, hsp'⟩
      all_goals
        go_wp2_with fail
        go_loopw [1, 5] (fun m x wr => ∃ (j A2 c2 l2 : _), m = .int .i64 (y - (j : Nat)) ∧ (j = 0 ∨ (j : Int) ≤ y) ∧ j ≤ 7 ∧ x = .slice A2 l2 c2 ∧ D wr A2 c2 l2 (a * 256 ^ k * 2 ^ j) ∧ Below w0.heap.size w0 wr) (fun m _ _ => (intOf m).toNat)
        case atStart => exact ⟨0, A1, c1, l1, by simp, .inl rfl, by omega, rfl, by simpa using HD.out, HB.out⟩
        case round =>
          clear HD HB
          obtain ⟨j, A2, c2, l2, rfl, hj, hj7, rfl, h2, b2⟩ := hrel
          have s2 : l2 ≤ 8 * l + (k + 1) := by
            refine h2.lt (Nat.lt_of_le_of_lt ?_ (pow_shift a (k + 1) HN.out))
            rw [Nat.pow_succ, ← Nat.mul_assoc]
            exact Nat.mul_le_mul_left _ (Nat.le_trans (Nat.pow_le_pow_right (by omega) hj7) (by decide))
          by_cases hgo : 0 < y - (j : Int) ∧ 0 < l2
          · obtain ⟨hg1, hg2⟩ := hgo
            have hy8 : y < 8 := by
              rcases hy3 with hh | hh
              · exact hh
              · have := HZ1.out hh
                have hp := h2.pos hg2
                rw [this] at hp
                simp at hp
            first
            | (exfalso; omega)
            | (skip
               have s3 : l2 ≤ 800000 := by omega
               have HD2 := Lib.hid h2
               have HB2 := Lib.hid b2
               clear h2 b2
               go_wp2_with fail
               refine (twice_d HD2.out s3 0 (by omega)).mono ?_
               rintro e w3 ⟨A3, c3, l3, rfl, h3, b3⟩
               have hd3 : D w3 A3 c3 l3 (a * 256 ^ k * 2 ^ (j + 1)) := by
                 rw [Nat.pow_succ, ← Nat.mul_assoc, Nat.mul_comm _ 2]; exact h3
               have HD3 := Lib.hid hd3
               have HB3 := Lib.hid (below_trans HB2.out b3)
               clear h3 b3 hd3 HD2 HB2
               go_wp2_with fail
               go_roundw
               case rel => exact ⟨j + 1, A3, c3, l3, by rw [show y - ((j + 1 : Nat) : Int) = y - (j : Int) - 1 from by omega], .inr (by omega), by omega, rfl, HD3.out, HB3.out⟩
               case measure => simp [intOf]; omega)
          · have hfin : a * 256 ^ k * 2 ^ j = a * 2 ^ z.toNat := by
              rcases Nat.eq_zero_or_pos a with rfl | ha
              · simp
              · have hl2 : l2 ≠ 0 := by
                  rintro rfl
                  have := h2.zero
                  have h3 : 0 < a * 256 ^ k * 2 ^ j := Nat.mul_pos (Nat.mul_pos ha (Nat.pow_pos (by omega))) (Nat.pow_pos (by omega))
                  omega
                have hl1 : l1 ≠ 0 := fun hh => by have := HZ1.out hh; omega
                have hyz := HYZ.out
                have ez : z.toNat = 8 * k + j := by omega
                rw [ez, Nat.pow_add, Nat.pow_mul, Nat.mul_assoc]
            rw [hfin] at h2
            have HD2 := Lib.hid h2
            have HB2 := Lib.hid b2
            have s3 : l2 ≤ 800000 := by omega
            clear h2 b2 hfin
            have hsq : y - (j : Int) ≤ 0 ∨ (0 < y - (j : Int) ∧ l2 ≤ 0) := by omega
            clear hgo
            rcases hsq with hsq | ⟨hsq, hsq'⟩
            all_goals
              first
              | (exfalso; omega)
              | (skip
                 go_wp2_with fail
                 refine (large_d HD2.out s3).mono ?_
                 rintro e w3 ⟨A3, c3, l3, rfl, h3, m3, b3⟩
                 go_wp2_with fail
                 go_ret
                 exact ⟨A3, c3, l3, rfl, h3, by omega, below_trans b0 (below_trans HB2.out b3)⟩)
theorem shl_r {w : World} {A : Option Addr} {c l a : Nat} (z : Int) (h : V w A c l a) (hl : l ≤ 50000) (hz' : -9223372036854775808 ≤ z) :
    Calls Tryd.prog 33 #[.slice A l c, .int .i64 z] w (Tells w (shlv a z) (l + 16386)) := by
  unfold shlv
  by_cases hz : 1048576 < z
  · rw [if_pos hz]
    exact (shl_big hz).mono fun e w' ⟨A1, c1, l1, he, hc, hm, hb⟩ => ⟨A1, c1, l1, he, hc, by omega, hb⟩
  · rw [if_neg hz]
    exact shl_small h hl (by omega) hz'
end Go.Proofs.YtjlfcnkndndgaaaDoor
