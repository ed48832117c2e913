/-
  Contract of limbs: long.
-/
import Derived.Test.YtjlfcnkndndgaaaDoorDigit
import Derived.Test.YtjlfcnkndndgaaaDoorShiftB
import Derived.Test.YtjlfcnkndndgaaaDoorShort
namespace Tw

/-- From place j on the quotient is made; what is left of the number is us. -/
def LongInv (U V : Nat) (us qs : List Nat) (j : Nat) : Prop := Ok us ∧ Ok qs ∧ U = val us + B ^ j * (val (qs.drop j) * V) ∧ val (us.drop j) < V

theorem LongInv.start {U V m : Nat} {us qs : List Nat} (ho : Ok us) (hq : Ok qs) (hU : val us = U) (hlq : qs.length = m) (ht : val (us.drop m) < V) : LongInv U V us qs m :=
  ⟨ho, hq, by rw [List.drop_eq_nil_of_le (by omega), val_nil, Nat.zero_mul, Nat.mul_zero, Nat.add_zero, hU], ht⟩

/-- The window below place j + 1. -/
theorem LongInv.window {U V j n : Nat} {us qs vs : List Nat} (h : LongInv U V us qs (j + 1)) (_hv : val vs = V) (hV : V < B ^ n) (hl : j + n + 1 ≤ us.length) :
    us = us.take j ++ ((us.drop j).take (n + 1) ++ us.drop (j + n + 1)) ∧ ((us.drop j).take (n + 1)).length = n + 1 ∧ val ((us.drop j).take (n + 1)) < B * V ∧ val (us.drop j) = val ((us.drop j).take (n + 1)) ∧ val (us.drop (j + n + 1)) = 0 := by
  obtain ⟨ho, hq, he, ht⟩ := h
  have e1 := val_drop_cons (xs := us) (k := j) (by omega)
  have e2 := dg_lt ho j
  have e3 : val (us.drop j) < B * V := by
    have : B * (val (us.drop (j + 1)) + 1) ≤ B * V := Nat.mul_le_mul_left _ ht
    rw [Nat.mul_add] at this
    omega
  have e4 : val (us.drop j) < B ^ (n + 1) := by
    have : B * V < B * B ^ n := Nat.mul_lt_mul_of_pos_left hV B_pos
    rw [Nat.pow_succ, Nat.mul_comm _ B]; omega
  have e5 : val ((us.drop j).take (n + 1)) = val (us.drop j) := val_take_nl (ho.drop j) (nl_le_of_lt e4)
  have e6 := val_split (us.drop j) (n + 1)
  rw [e5] at e6
  have e7 : val ((us.drop j).drop (n + 1)) = 0 := by
    have : B ^ (n + 1) * val ((us.drop j).drop (n + 1)) = 0 := by omega
    rcases Nat.mul_eq_zero.1 this with h | h
    · have := Nat.pow_pos (n := n + 1) B_pos; omega
    · exact h
  rw [List.drop_drop] at e7
  refine ⟨?_, by rw [List.length_take, List.length_drop]; omega, by rw [e5]; exact e3, e5.symm, by rw [Nat.add_assoc]; exact e7⟩
  rw [Nat.add_assoc, ← List.drop_drop, List.take_append_drop, List.take_append_drop]

theorem LongInv.step {U V j n : Nat} {us qs Y : List Nat} (h : LongInv U V us qs (j + 1)) (hV : V < B ^ n) (hVp : 0 < V) (hl : j + n + 1 ≤ us.length) (hj : j < qs.length) (hoY : Ok Y) (hlY : Y.length = n + 1) (hvY : val Y = val ((us.drop j).take (n + 1)) % V) (hqB : val ((us.drop j).take (n + 1)) / V < B) :
    LongInv U V (us.take j ++ (Y ++ us.drop (j + n + 1))) (qs.set j (val ((us.drop j).take (n + 1)) / V)) j := by
  obtain ⟨w1, w2, w3, w4, w5⟩ := h.window (vs := limbs V) (val_limbs V) hV hl
  obtain ⟨ho, hq, he, ht⟩ := h
  have hlt : (us.take j).length = j := by rw [List.length_take]; omega
  have hd : (us.take j ++ (Y ++ us.drop (j + n + 1))).drop j = Y ++ us.drop (j + n + 1) := by
    rw [List.drop_append, hlt, Nat.sub_self, List.drop_zero, List.drop_of_length_le (by omega), List.nil_append]
  have hvd : val (Y ++ us.drop (j + n + 1)) = val Y := by rw [val_append, w5, Nat.mul_zero, Nat.add_zero]
  refine ⟨(ho.take j).append (hoY.append (ho.drop _)), hq.set _ _ hqB, ?_, by rw [hd, hvd, hvY]; exact Nat.mod_lt _ hVp⟩
  have e1 : val us = val (us.take j) + B ^ j * val (us.drop j) := val_split us j
  have e2 : val (us.take j ++ (Y ++ us.drop (j + n + 1))) = val (us.take j) + B ^ j * val Y := by rw [val_append, hlt, hvd]
  have e3 : val ((qs.set j (val ((us.drop j).take (n + 1)) / V)).drop j) = val ((us.drop j).take (n + 1)) / V + B * val (qs.drop (j + 1)) := by rw [drop_set hj, val_cons]
  have e4 := Nat.div_add_mod (val ((us.drop j).take (n + 1))) V
  rw [e2, e3, he, e1, w4, hvY, Nat.add_mul, Nat.mul_add, Nat.pow_succ]
  generalize val ((us.drop j).take (n + 1)) = x at *
  have e5 : B ^ j * x = B ^ j * (x / V * V) + B ^ j * (x % V) := by rw [← Nat.mul_add, Nat.mul_comm (x / V), e4]
  have e6 : B ^ j * B * (val (qs.drop (j + 1)) * V) = B ^ j * (B * val (qs.drop (j + 1)) * V) := by rw [Nat.mul_assoc, Nat.mul_assoc]
  rw [e5, e6]
  omega

theorem LongInv.done {U V : Nat} {us qs : List Nat} (h : LongInv U V us qs 0) (hV : 0 < V) : val qs = U / V ∧ val us = U % V := by
  obtain ⟨ho, hq, he, ht⟩ := h
  rw [List.drop_zero] at he ht
  rw [Nat.pow_zero, Nat.one_mul, Nat.mul_comm] at he
  rw [he]
  exact ⟨by rw [Nat.add_mul_div_left _ _ hV, Nat.div_eq_of_lt ht, Nat.zero_add], by rw [Nat.add_mul_mod_self_left, Nat.mod_eq_of_lt ht]⟩
end Tw
namespace Go.Proofs.YtjlfcnkndndgaaaDoor
open Go.RowKit Tw

/-- What long is given, and what it makes of it. -/
structure LongIn (xs ys : List Nat) (la n s V U : Nat) : Prop where
  okX : Ok xs
  okY : Ok ys
  lX : xs.length = la
  lY : ys.length = n
  two : 2 ≤ n
  top : dg ys (n - 1) ≠ 0
  le : n ≤ la
  hs : s = 64 - Lib.bitLen (dg ys (n - 1))
  hV : V = val ys * 2 ^ s
  hU : U = val xs * 2 ^ s

theorem LongIn.facts {xs ys : List Nat} {la n s V U : Nat} (h : LongIn xs ys la n s V U) : nl V = n ∧ V < B ^ n ∧ 0 < V ∧ U < B ^ (la + 1) ∧ nl U ≤ la + 1 ∧ U / B ^ (la + 1 - n) < V ∧ s < 64 := by
  obtain ⟨oX, oY, lX, lY, h2, ht, hle, hs, hV, hU⟩ := h
  have htB := dg_lt oY (n - 1)
  obtain ⟨b1, b2, b3, b4⟩ := bitLen_bounds ht htB
  obtain ⟨m, rfl⟩ : ∃ m, n = m + 1 := ⟨n - 1, by omega⟩
  rw [Nat.add_sub_cancel] at *
  have e1 := top2 lY
  have e2 := val_take_lt oY m
  have p2 : 2 ^ Lib.bitLen (dg ys m) * 2 ^ s = B := by rw [← Nat.pow_add, hs, show Lib.bitLen (dg ys m) + (64 - Lib.bitLen (dg ys m)) = 64 from by omega]; rfl
  have hVlt : V < B ^ (m + 1) := by
    have h1 : (val ys + 1) * 2 ^ s ≤ B ^ m * 2 ^ Lib.bitLen (dg ys m) * 2 ^ s := Nat.mul_le_mul_right _ (by
      have : B ^ m * (dg ys m + 1) ≤ B ^ m * 2 ^ Lib.bitLen (dg ys m) := Nat.mul_le_mul_left _ b4
      rw [Nat.mul_add, Nat.mul_one] at this
      omega)
    rw [Nat.mul_assoc, p2, Nat.add_mul] at h1
    rw [hV, Nat.pow_succ]
    have := Nat.two_pow_pos s
    omega
  have hys : B ^ m ≤ val ys := by
    have : B ^ m * 1 ≤ B ^ m * dg ys m := Nat.mul_le_mul_left _ (by omega)
    omega
  have hps := Nat.two_pow_pos s
  have hVge : B ^ m * 2 ^ s ≤ V := by rw [hV]; exact Nat.mul_le_mul_right _ hys
  have hBm : 0 < B ^ m := Nat.pow_pos B_pos
  have hVp : 0 < V := Nat.lt_of_lt_of_le (Nat.mul_pos hBm hps) hVge
  have hVm : B ^ m ≤ V := Nat.le_trans (Nat.le_mul_of_pos_right _ hps) hVge
  have hs64 : 2 ^ s ≤ B := by rw [show B = 2 ^ 64 from rfl]; exact Nat.pow_le_pow_right (by omega) (by omega)
  have hxs := val_lt oX
  rw [lX] at hxs
  have hUlt : U < B ^ la * 2 ^ s := by rw [hU]; exact Nat.mul_lt_mul_of_pos_right hxs hps
  have hU1 : U < B ^ (la + 1) := by
    rw [Nat.pow_succ]; exact Nat.lt_of_lt_of_le hUlt (Nat.mul_le_mul_left _ hs64)
  refine ⟨?_, hVlt, hVp, hU1, nl_le_of_lt hU1, ?_, by omega⟩
  · have a1 := nl_le_of_lt hVlt
    rcases Nat.lt_or_ge (nl V) (m + 1) with a2 | a2
    · have := (nl_le_iff (n := V) (k := m)).1 (by omega); omega
    · omega
  · rw [show la + 1 - (m + 1) = la - m from by omega]
    refine Nat.lt_of_lt_of_le ?_ hVge
    rw [Nat.div_lt_iff_lt_mul (Nat.pow_pos B_pos)]
    have : B ^ m * 2 ^ s * B ^ (la - m) = B ^ la * 2 ^ s := by
      rw [Nat.mul_right_comm, ← Nat.pow_add, show m + (la - m) = la from by omega]
    rw [this]; exact hUlt

theorem splice_front (n : Nat) (xs : List Nat) (_h : xs.length ≤ n) : splice (cellsOf (List.replicate n 0)).toList 0 (cellsOf xs).toList = (cellsOf (xs ++ List.replicate (n - xs.length) 0)).toList := by
  unfold splice cellsOf
  simp

theorem nums_src {w : World} {A : Option Addr} {c : Nat} {xs : List Nat} (h : Nums w A c xs) (hp : 0 < xs.length) : ∃ ad, A = some ad ∧ ∀ j v, (cellsOf xs).toList[j]? = some v → w.cell? (ad.add j) = some v := by
  obtain ⟨b, off, rfl, hcell⟩ := h.cells hp
  refine ⟨_, rfl, fun j v hv => ?_⟩
  have hj : j < xs.length := by
    rcases Nat.lt_or_ge j xs.length with hj | hj
    · exact hj
    · rw [List.getElem?_eq_none (by simpa [cellsOf] using hj)] at hv; cases hv
  have hadd : (⟨b, off, none⟩ : Addr).add j = ⟨b, off + j, none⟩ := by unfold Addr.add; split <;> simp_all
  rw [hadd, hcell j hj]
  simp only [cellsOf, List.getElem?_map, dg_get hj] at hv
  exact hv

set_option maxRecDepth 100000 in
set_option maxHeartbeats 2000000 in
theorem long_any (A A' : Option Addr) (c c' la n s V U : Nat) (xs ys : List Nat) (w : World) (h : Nums w A c xs) (h' : Nums w A' c' ys) (hI : Hid (LongIn xs ys la n s V U)) (hs : la ≤ 900000) :
    Calls Tryd.prog 69 #[.slice A la c, .slice A' n c'] w (Ret2 w (val xs / val ys) (val xs % val ys)) := by
  have HF := Lib.hid hI.out.facts
  have hle := hI.out.le
  have hn2 := hI.out.two
  obtain ⟨b', off', rfl, hcy⟩ := h'.cells (by rw [hI.out.lY]; omega)
  have hct := hcy (n - 1) (by rw [hI.out.lY]; omega)
  have i1 : (0 : Int) ≤ (n : Int) - 1 := by omega
  have i2 : (n : Int) - 1 < n := by omega
  have HLZ : Hid (∀ W, Calls Tryd.prog 89 #[.int .u64 ((dg ys (n - 1) : Nat) : Int)] W fun e w' => e = .returned (.int .i64 (s : Int)) ∧ W = w') := fun W =>
    (lead64 _ (dg_lt hI.out.okY _) W).mono fun e w' ⟨he, hw⟩ => ⟨by rw [he]; exact ret_int (by have := hI.out.hs; have := bitLen_le64 (dg_lt hI.out.okY (n - 1)); omega), hw⟩
  have HUP1 : Hid (∀ W, Nums W (some ⟨b', off', none⟩) c' ys → Calls Tryd.prog 77 #[.slice (some ⟨b', off', none⟩) n c', .int .i64 (s : Int)] W (Ret W V)) := fun W hW => by
    have := up_any _ c' s ys W hW (by rw [hI.out.lY]; omega) (by have := HF.out.2.2.2.2.2.2; omega)
    rwa [hI.out.lY, ← hI.out.hV] at this
  have HUP2 : Hid (∀ W, Nums W A c xs → Calls Tryd.prog 77 #[.slice A la c, .int .i64 (s : Int)] W (Ret W U)) := fun W hW => by
    have := up_any _ c s xs W hW (by rw [hI.out.lX]; omega) (by have := HF.out.2.2.2.2.2.2; omega)
    rwa [hI.out.lX, ← hI.out.hU] at this
  clear hcy
  go_enter Tryd.func69, Tryd.ntmps69
  go_wp2_with fail
  refine (HLZ.out _).mono ?_; rintro e w' ⟨rfl, rfl⟩
  go_wp2_with fail
  refine (HUP1.out _ h').mono ?_; rintro e w1 ⟨A1, c1, rfl, ho1, hb1⟩
  rw [HF.out.1]
  clear hct
  have hmk := make_words (la + 1) (by omega)
  rw [show ((la + 1 : Nat) : Int) = (la : Int) + 1 from by omega] at hmk
  obtain ⟨g, hg⟩ : ∃ g, g = w1.heap.size := ⟨_, rfl⟩
  go_wp2_with fail
  have hb2 : Below w1.heap.size w1 (w1.alloc (.cells (cellsOf (List.replicate (la + 1) 0)) 29)) := (Below.refl _ _).alloc (Nat.le_refl _) _
  have hr2 := Row.new w1 (List.replicate (la + 1) 0)
  rw [← hg] at hr2
  have hlt2 := hr2.lt
  generalize hw2 : w1.alloc (.cells (cellsOf (List.replicate (la + 1) 0)) 29) = w2 at hb2 hr2 hlt2 ⊢
  rw [← hg]
  have HG := Lib.hid hg
  clear hmk hw2 hg
  refine (HUP2.out _ (h.below (below_trans hb1 hb2))).mono ?_; rintro e w3 ⟨A3, c3, rfl, ho3, hb3⟩
  have hb13 : Below w1.heap.size w1 w3 := hb2.trans (hb3.mono hb2.size)
  have hr3 := hr2.below hb3 hlt2
  have hnU := HF.out.2.2.2.2.1
  have HN : Hid ((cellsOf (limbs U)).toList.length = Nat.min (nl U) (la + 1)) := by
    show (cellsOf (limbs U)).toList.length = _
    rw [show Nat.min (nl U) (la + 1) = nl U from Nat.min_eq_left hnU]; simp [cellsOf, nl]
  have HFit : Hid (0 + (cellsOf (limbs U)).toList.length ≤ (cellsOf (List.replicate (la + 1) 0)).toList.length) := by
    show 0 + (cellsOf (limbs U)).toList.length ≤ _
    simpa [cellsOf, nl] using hnU
  have HP : Hid (0 < (cellsOf (limbs U)).toList.length → ∃ ad, A3 = some ad ∧ ∀ j v, (cellsOf (limbs U)).toList[j]? = some v → w3.cell? (ad.add j) = some v) := fun hp => nums_src ho3.nums (by simpa [cellsOf] using hp)
  have HSP := Lib.hid (splice_front (la + 1) (limbs U) hnU)
  obtain ⟨m, hm⟩ : ∃ m, m + n = la + 1 := ⟨la + 1 - n, by omega⟩
  have q1 : (la : Int) + 1 - (n : Int) = (m : Int) := by omega
  have hmk := make_words m (by omega)
  have HM := Lib.hid hm
  have hm1 : m ≤ la := by omega
  have hm0 : 0 < m := by omega
  clear hm
  have HR3 : Hid (w3.heap[g]? = some (.cells (cellsOf (List.replicate (la + 1) 0)).toList.toArray 29 (0, 0))) := hr3
  have hBg : w1.heap.size ≤ g := by rw [HG.out]; exact Nat.le_refl _
  clear hr3 hr2 hnU
  go_wp2_with (with_reducible refine wpList_copy_splice rfl (.tmp 29) (.tmp 32) 22 22 rfl 29 und_words u64_size (some ⟨g, 0, none⟩) A3 (la + 1) (la + 1) (nl U) c3 rfl rfl g 0 (cellsOf (List.replicate (la + 1) 0)).toList 29 HR3.out (cellsOf (limbs U)).toList HN.out (fun hp => ⟨rfl, HP.out hp⟩) HFit.out (oneCell_cellsOf _) w1.heap.size w1 hb13 hBg ?_; intro w4 hr4 hb4)
  obtain ⟨gq, hgq⟩ : ∃ gq, gq = w4.heap.size := ⟨_, rfl⟩
  go_wp2_with fail
  have hr4' : Row w4 g (limbs U ++ List.replicate (la + 1 - nl U) 0) := by have := hr4.out; rw [HSP.out] at this; exact this
  have hgl := hr4'.lt
  have hlen4 : (limbs U ++ List.replicate (la + 1 - nl U) 0).length = la + 1 := by have := HF.out.2.2.2.2.1; rw [List.length_append, List.length_replicate]; unfold nl at *; omega
  have hok4 : Ok (limbs U ++ List.replicate (la + 1 - nl U) 0) := (ok_limbs U).append (Ok.replicate _)
  have hval4 : val (limbs U ++ List.replicate (la + 1 - nl U) 0) = U := by rw [val_append, val_replicate, Nat.mul_zero, Nat.add_zero, val_limbs]
  have hdrop4 : val ((limbs U ++ List.replicate (la + 1 - nl U) 0).drop m) < V := by
    have e1 := val_split (limbs U ++ List.replicate (la + 1 - nl U) 0) m
    have e2 := val_take_lt hok4 m
    have e3 := HF.out.2.2.2.2.2.1
    rw [show la + 1 - n = m from by have := HM.out; omega] at e3
    rw [hval4] at e1
    have : U / B ^ m = val ((limbs U ++ List.replicate (la + 1 - nl U) 0).drop m) := by
      conv => lhs; rw [e1]
      rw [Nat.add_mul_div_left _ _ (Nat.pow_pos B_pos), Nat.div_eq_of_lt e2, Nat.zero_add]
    omega
  generalize limbs U ++ List.replicate (la + 1 - nl U) 0 = us0 at hr4' hlen4 hok4 hval4 hdrop4
  have HST := Lib.hid (And.intro hlen4 (LongInv.start hok4 (Ok.replicate m) hval4 (by simp) hdrop4))
  rw [← hgq]
  have HGQ := Lib.hid hgq
  clear hmk hgq q1 hlen4 hok4 hval4 hdrop4 hr4
  go_loopw [41] (fun i wr => ∃ k : Nat, k ≤ m ∧ i = .int .i64 k ∧ ∃ us qs, us.length = la + 1 ∧ qs.length = m ∧ Row wr g us ∧ Row wr gq qs ∧ LongInv U V us qs (m - k) ∧ Below w1.heap.size w1 wr) (fun i _ => m - (intOf i).toNat)
  case atStart => exact ⟨0, Nat.zero_le _, rfl, us0, List.replicate m 0, HST.out.1, by simp, hr4'.alloc _, by rw [HGQ.out]; exact Row.new w4 _, HST.out.2, hb4.alloc hb4.size _⟩
  case round =>
    obtain ⟨k, hk, rfl, us, qs, hlu, hlq, hru, hrq, hi, hb⟩ := hrel
    by_cases hlt : k < m
    · obtain ⟨J, hJ⟩ : ∃ J, k + J + 1 = m := ⟨m - 1 - k, by omega⟩
      have q2 : (m : Int) - 1 - (k : Int) = (J : Int) := by omega
      have hJn : J + n + 1 ≤ la + 1 := by have := HM.out; omega
      rw [show m - k = J + 1 from by omega] at hi
      have hcq := hrq.cell (k := J) (by omega)
      have hfr := hrq.frozen J
      have HJ := Lib.hid (And.intro hJ (And.intro hlu hlq))
      have HI := Lib.hid hi
      clear hJ hlu hlq hi
      go_wp2_with fail
      rw [show J + n + 1 - J = n + 1 from by omega]
      obtain ⟨x1, x2, x3, x4, x5⟩ := HI.out.window (vs := limbs V) (val_limbs V) HF.out.2.1 (by rw [HJ.out.2.1]; exact hJn)
      have hoX := (HI.out.1.drop J).take (n + 1)
      have hGI : GuessIn ((us.drop J).take (n + 1)) (limbs V) n := ⟨hoX, ok_limbs V, x2, HF.out.1, hn2, Nat.pos_of_ne_zero (by have := top_ne (n := V) (by have := HF.out.2.2.1; omega); rw [HF.out.1] at this; exact this), by rw [val_limbs]; exact x3⟩
      have hPl : (us.take J).length = J := by rw [List.length_take, HJ.out.2.1]; omega
      have hru' : Row wr g (us.take J ++ ((us.drop J).take (n + 1) ++ us.drop (J + n + 1))) := by rw [← x1]; exact hru
      have hN1 := (ho1.below hb).nums
      have hd := digit_any g J n (la + 1 - J) (us.take J) ((us.drop J).take (n + 1)) (us.drop (J + n + 1)) A1 c1 (limbs V) wr hru' hPl hGI hN1 (ho1.nums.off (by rw [HG.out]; exact Nat.le_refl _)) (by omega) hn2
      rw [val_limbs] at hd
      have hqB := hGI.q_lt
      rw [val_limbs] at hqB
      have HD := Lib.hid hd
      have HQ := Lib.hid hqB
      clear hd hGI hPl hru' hN1 x1 x2 x3 x4 x5 hqB
      refine HD.out.mono ?_; rintro e w5 ⟨rfl, Y, hrY, hoY, hlY, hvY, hgr⟩
      have hrq5 := hrq.grown hgr (by simp; have := HGQ.out; omega)
      have hcq5 := hrq5.cell (k := J) (by rw [HJ.out.2.2]; have := HJ.out.1; omega)
      have hfr5 := hrq5.frozen J
      have hb5 : Below w1.heap.size w1 w5 := below_row hb hgr hBg
      have HY := Lib.hid (And.intro hlY hvY)
      clear hlY hvY hcq hfr
      go_wp2_with fail
      go_roundw
      case rel =>
        refine ⟨k + 1, by omega, by go_num, us.take J ++ (Y ++ us.drop (J + n + 1)), qs.set J _, ?_, by rw [List.length_set]; exact HJ.out.2.2, hrY.far (by simp; have := HGQ.out; omega) _, hrq5.set J _, ?_, hb5.setCell (by have := HGQ.out; simp; omega) _⟩
        · have a1 := HJ.out.2.1
          have a2 := HY.out.1
          simp only [List.length_append, List.length_take, List.length_drop]
          omega
        · rw [show m - (k + 1) = J from by have := HJ.out.1; omega]
          exact HI.out.step HF.out.2.1 HF.out.2.2.1 (by rw [HJ.out.2.1]; exact hJn) (by rw [HJ.out.2.2]; have := HJ.out.1; omega) hoY HY.out.1 HY.out.2 HQ.out
      case measure => simp [intOf]; omega
    · obtain rfl : k = m := by omega
      rw [Nat.sub_self] at hi
      obtain ⟨hvq, hvu⟩ := hi.done HF.out.2.2.1
      have hps := Nat.two_pow_pos s
      have hsc := scaled (n := val xs) (y := val ys) hps
      rw [hI.out.hU, hI.out.hV, hsc.1] at hvq
      have ht := tidy_row gq k qs wr hrq hi.2.1 (by omega) (by omega) w.heap.size (val xs / val ys) (by have := HGQ.out; have := hb1.size; have := hb4.size; omega) (by rw [List.take_of_length_le (by omega)]; exact hvq)
      rw [hlq] at ht
      have hsh := fun W (hW : Nums W (some ⟨g, 0, none⟩) (la + 1) us) => shr_any (some ⟨g, 0, none⟩) (la + 1) (s : Int) us W hW (by omega) (by have := HF.out.2.2.2.2.2.2; omega)
      rw [hlu] at hsh
      have hres : val us / 2 ^ (s : Int).toNat = val xs % val ys := by
        rw [Int.toNat_natCast, hvu, hI.out.hU, hI.out.hV, hsc.2]
      rw [hres] at hsh
      have HT := Lib.hid ht
      have HSH := Lib.hid hsh
      have hNu : Nums wr (some ⟨g, 0, none⟩) (la + 1) us := by rw [← hlu]; exact hru.nums hi.1
      clear ht hsh hres hvq hvu hsc hps hlq
      go_wp2_with fail
      refine HT.out.mono ?_; rintro e w6 ⟨A6, c6, rfl, ho6, rfl⟩
      go_wp2_with fail
      refine (HSH.out _ hNu).mono ?_; rintro e w7 ⟨A7, c7, rfl, ho7, hb7⟩
      go_wp2_with fail
      go_ret2
      exact ⟨A6, c6, A7, c7, rfl, ho6.below hb7, ho7.mono (Nat.le_trans hb1.size hb.size), below_trans (below_trans hb1 hb) hb7⟩
end Go.Proofs.YtjlfcnkndndgaaaDoor
