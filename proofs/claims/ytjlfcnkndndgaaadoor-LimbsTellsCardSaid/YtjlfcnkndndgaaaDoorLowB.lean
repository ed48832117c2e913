/-
  Contracts of limbs: Trim, Cmp.
-/
import Derived.Test.YtjlfcnkndndgaaaDoorLowA
namespace Go.Proofs.YtjlfcnkndndgaaaDoor
open Go.RowKit Tw

theorem u64_info : (Tryd.prog.info? 29).map (fun i => (i.zero, i.size, i.bytes)) = some (some (.int .u64 0), 1, 8) := by kernel_rfl
theorem u64_size : (Tryd.prog.info? 29).map (·.size) = some 1 := by kernel_rfl
theorem und_words : Tryd.prog.underlying 22 = some (.slice 29) := Tryd.underlying22

/-- make([]uint64, n): n noughts in a new block. -/
theorem make_words (n : Nat) (hn : n ≤ 8000000) (w : World) :
    (Instr.makeSlice 22 (.int .i64 (n : Int)) (.int .i64 (n : Int))).run Tryd.prog w = .ok (.slice (some ⟨w.heap.size, 0, none⟩) n n) (w.alloc (.cells (cellsOf (List.replicate n 0)) 29)) := by
  rw [← cells_zero]
  exact run_make_row' 22 29 (.int .u64 0) 8 und_words u64_info rfl .i64 .i64 n (by omega) (by omega) w

theorem splice_all (n : Nat) (xs : List Nat) (h : xs.length = n) : splice (cellsOf (List.replicate n 0)).toList 0 (cellsOf xs).toList = (cellsOf xs).toList := by
  unfold splice cellsOf
  simp [h]

theorem oneCell_cellsOf (xs : List Nat) : ∀ v ∈ (cellsOf xs).toList, v.oneCell' = true := by
  intro v hv
  simp only [cellsOf, List.mem_map] at hv
  obtain ⟨y, _, rfl⟩ := hv
  rfl

theorem src_cells {w W : World} {A : Option Addr} {c : Nat} {xs : List Nat} (h : Nums w A c xs) (hW : Below w.heap.size w W) (hp : 0 < xs.length) :
    ∃ ad, A = some ad ∧ ∀ j v, (cellsOf (limbs (val xs))).toList[j]? = some v → W.cell? (ad.add j) = some v := by
  obtain ⟨b, off, rfl, hcell⟩ := (h.below hW).cells hp
  refine ⟨_, rfl, fun j v hv => ?_⟩
  have hl := nl_val h.ok
  have hj : j < nl (val xs) := by
    rcases Nat.lt_or_ge j (nl (val xs)) with hj | hj
    · exact hj
    · rw [List.getElem?_eq_none (by simpa [cellsOf, nl] using hj)] at hv; cases hv
  have hd : dg xs j = dg (limbs (val xs)) j := getD_limbs h.ok j
  have hadd : (⟨b, off, none⟩ : Addr).add j = ⟨b, off + j, none⟩ := by unfold Addr.add; split <;> simp_all
  rw [hadd, hcell j (by omega), hd]
  simp only [cellsOf, List.getElem?_map, dg_get (show j < (limbs (val xs)).length from hj)] at hv
  exact hv

theorem trim_any (A : Option Addr) (c : Nat) (xs : List Nat) (w : World) (h : Nums w A c xs) (hs : xs.length ≤ 4000000) :
    Calls Tryd.prog 15 #[.slice A xs.length c] w (Ret w (val xs)) := by
  have hl := nl_val h.ok
  have HU := Lib.hid (fun W (hW : Nums W A c xs) => used_any A c xs W hW hs)
  by_cases h0 : val xs = 0
  · have h1 : (((nl (val xs) : Nat) : Int) == 0) = true := by simp [h0, nl_zero]
    have HT : Hid (Ret w (val xs) (.returned (.slice none 0 0)) w) := ⟨none, 0, by rw [h0]; rfl, .inl ⟨h0, rfl, rfl⟩, Below.refl _ _⟩
    clear h0
    go_enter Tryd.func15, Tryd.ntmps15
    go_wp2_with (go_at_call 67; refine (HU.out _ h).mono ?_; rintro e w' ⟨rfl, rfl⟩)
    go_ret
    exact HT.out
  · have h1 : (((nl (val xs) : Nat) : Int) == 0) = false := by simp [nl_eq_zero, h0]
    have hp : 0 < nl (val xs) := by rcases Nat.eq_zero_or_pos (nl (val xs)) with e | e; exact absurd (nl_eq_zero.1 e) h0; exact e
    have HT : Hid (∀ w', w'.heap[w.heap.size]? = some (.cells (cellsOf (limbs (val xs))).toList.toArray 29 (0, 0)) → Below w.heap.size w w' → Ret w (val xs) (.returned (.slice (some ⟨w.heap.size, 0, none⟩) (nl (val xs)) (nl (val xs)))) w') := fun w' hr hb =>
      ⟨_, _, rfl, .inr ⟨h0, w.heap.size, limbs (val xs), rfl, Nat.le_refl _, hr, rfl, Nat.le_refl _, List.take_of_length_le (Nat.le_refl _), ok_limbs _⟩, hb⟩
    have hmk := make_words (nl (val xs)) (by omega)
    have HS := Lib.hid (splice_all (nl (val xs)) (limbs (val xs)) rfl)
    have hb1 : Below w.heap.size w (w.alloc (.cells (cellsOf (List.replicate (nl (val xs)) 0)) 29)) := (Below.refl _ _).alloc (Nat.le_refl _) _
    have HC := Lib.hid (src_cells h hb1 (by omega))
    have HN : Hid ((cellsOf (limbs (val xs))).toList.length = Nat.min xs.length (nl (val xs))) := by
      show (cellsOf (limbs (val xs))).toList.length = _
      rw [show Nat.min xs.length (nl (val xs)) = nl (val xs) from Nat.min_eq_right hl]; simp [cellsOf, nl]
    have HF : Hid (0 + (cellsOf (limbs (val xs))).toList.length ≤ (cellsOf (List.replicate (nl (val xs)) 0)).toList.length) := by
      show 0 + (cellsOf (limbs (val xs))).toList.length ≤ _
      simp [cellsOf, nl]
    have HG := Lib.hid (heap_alloc_new w (.cells (cellsOf (List.replicate (nl (val xs)) 0)) 29))
    clear h0
    go_enter Tryd.func15, Tryd.ntmps15
    go_wp2_with (first | (go_at_call 67; refine (HU.out _ h).mono ?_; rintro e w' ⟨rfl, rfl⟩) | (with_reducible refine wpList_copy_splice rfl (.tmp 11) (.tmp 12) 22 22 rfl 29 und_words u64_size (some ⟨w.heap.size, 0, none⟩) A (nl (val xs)) (nl (val xs)) xs.length c rfl rfl w.heap.size 0 (cellsOf (List.replicate (nl (val xs)) 0)).toList 29 HG.out (cellsOf (limbs (val xs))).toList HN.out (fun _ => ⟨rfl, HC.out⟩) HF.out (oneCell_cellsOf _) w.heap.size w hb1 (Nat.le_refl _) ?_; intro w1 hr1 hbb1))
    go_ret
    have hr := hr1.out
    rw [HS.out] at hr
    exact HT.out _ hr hbb1

/-- Cmp's answer; only draws. -/
def CmpPost (w : World) (a b : Nat) (e : Ending) (w' : World) : Prop := e = .returned (.int .i64 (cmpI a b)) ∧ ∃ n, w' = w.drewN n

set_option maxHeartbeats 400000 in
theorem cmp_any (A A' : Option Addr) (c c' : Nat) (xs ys : List Nat) (w : World) (h : Nums w A c xs) (h' : Nums w A' c' ys) (hs : xs.length ≤ 4000000) (hs' : ys.length ≤ 4000000) :
    Calls Tryd.prog 20 #[.slice A xs.length c, .slice A' ys.length c'] w (CmpPost w (val xs) (val ys)) := by
  have hl := nl_val h.ok
  have hl' := nl_val h'.ok
  have HU := Lib.hid (fun W (hW : Nums W A c xs) => used_any A c xs W hW hs)
  have HU' := Lib.hid (fun W (hW : Nums W A' c' ys) => used_any A' c' ys W hW hs')
  by_cases hn : nl (val xs) = nl (val ys)
  · have h1 : (((nl (val xs) : Nat) : Int) != ((nl (val ys) : Nat) : Int)) = false := by simp [hn]
    have HA := Lib.hid (Agree.start h.ok h'.ok hn)
    have HN := Lib.hid hn
    have hle : nl (val xs) ≤ nl (val ys) := by omega
    have hle' : nl (val ys) ≤ nl (val xs) := by omega
    clear hn
    go_enter Tryd.func20, Tryd.ntmps20
    go_wp2_with fail
    refine (HU.out _ h).mono ?_; rintro e w' ⟨rfl, rfl⟩
    go_wp2_with fail
    refine (HU'.out _ h').mono ?_; rintro e w' ⟨rfl, rfl⟩
    go_wp2_with fail
    go_loopw [20] (fun i wr => ∃ k n : Nat, k ≤ nl (val xs) ∧ i = .int .i64 k ∧ wr = w.drewN n ∧ Agree xs ys (nl (val xs) - k)) (fun i _ => nl (val xs) - (intOf i).toNat)
    case atStart => exact ⟨0, 0, Nat.zero_le _, rfl, rfl, HA.out⟩
    case round =>
      obtain ⟨k, n, hk, rfl, rfl, hag⟩ := hrel
      by_cases hlt : k < nl (val xs)
      · obtain ⟨j, hj⟩ : ∃ j, j + k + 1 = nl (val xs) := ⟨nl (val xs) - 1 - k, by omega⟩
        obtain ⟨b, off, rfl, hcell⟩ := h.cells (by omega)
        obtain ⟨b', off', rfl, hcell'⟩ := h'.cells (by omega)
        have c1 := hcell (nl (val xs) - 1 - k) (by omega)
        have c2 := hcell' (nl (val xs) - 1 - k) (by omega)
        clear hcell hcell'
        have i1 : 0 ≤ ((nl (val xs) : Nat) : Int) - 1 - k := by omega
        have i2 : ((nl (val xs) : Nat) : Int) - 1 - k < xs.length := by omega
        have i3 : ((nl (val xs) : Nat) : Int) - 1 - k < ys.length := by omega
        rcases Nat.lt_trichotomy (dg xs (nl (val xs) - 1 - k)) (dg ys (nl (val xs) - 1 - k)) with hd | hd | hd
        · have t1 : (((dg xs (nl (val xs) - 1 - k) : Nat) : Int) != ((dg ys (nl (val xs) - 1 - k) : Nat) : Int)) = true := by rw [bne_iff_ne]; omega
          have HD := Lib.hid hd
          clear hd
          go_wp2_with fail
          go_quiet (fail)
          go_wp2_with fail
          go_quiet ((go_at_call 76; first | exact quiet_at (compare_u64 _ _ _) | exact quiet_at2 (compare_u64 _ _ _)))
          go_wp2_with fail
          go_ret
          have e1 : Agree xs ys (nl (val xs) - 1 - k + 1) := by rw [show nl (val xs) - 1 - k + 1 = nl (val xs) - k from by omega]; exact hag
          have e2 := Agree.less h.ok e1 HD.out
          have e3 := HD.out
          refine ⟨ret_int ?_, _, by rw [World.drewN_drewN, World.drewN_drewN]⟩
          rw [cmpI_lt (by omega), cmpI_lt (by omega)]
        · have t1 : (((dg xs (nl (val xs) - 1 - k) : Nat) : Int) != ((dg ys (nl (val xs) - 1 - k) : Nat) : Int)) = false := by simp [hd]
          have HD := Lib.hid hd
          clear hd
          go_wp2_with fail
          go_quiet (fail)
          go_wp2_with fail
          go_roundw
          case rel =>
            refine ⟨k + 1, n + nq, by omega, by go_num, rfl, ?_⟩
            rw [show nl (val xs) - (k + 1) = nl (val xs) - 1 - k from by omega]
            exact Agree.down (by rw [show nl (val xs) - 1 - k + 1 = nl (val xs) - k from by omega]; exact hag) HD.out
          case measure => simp [intOf]; omega
        · have t1 : (((dg xs (nl (val xs) - 1 - k) : Nat) : Int) != ((dg ys (nl (val xs) - 1 - k) : Nat) : Int)) = true := by rw [bne_iff_ne]; omega
          have HD := Lib.hid hd
          clear hd
          go_wp2_with fail
          go_quiet (fail)
          go_wp2_with fail
          go_quiet ((go_at_call 76; first | exact quiet_at (compare_u64 _ _ _) | exact quiet_at2 (compare_u64 _ _ _)))
          go_wp2_with fail
          go_ret
          have e1 : Agree xs ys (nl (val xs) - 1 - k + 1) := by rw [show nl (val xs) - 1 - k + 1 = nl (val xs) - k from by omega]; exact hag
          have e2 := Agree.less h'.ok e1.symm HD.out
          have e3 := HD.out
          refine ⟨ret_int ?_, _, by rw [World.drewN_drewN, World.drewN_drewN]⟩
          rw [cmpI_gt (by omega), cmpI_gt (by omega)]
      · go_wp2_with fail
        go_ret
        have e1 : nl (val xs) - k = 0 := by omega
        rw [e1] at hag
        exact ⟨ret_int (by rw [hag.all, cmpI_eq]), n, rfl⟩
  · have h1 : (((nl (val xs) : Nat) : Int) != ((nl (val ys) : Nat) : Int)) = true := by rw [bne_iff_ne]; omega
    have HE : Hid (cmpI ((nl (val xs) : Nat) : Int) ((nl (val ys) : Nat) : Int) = cmpI ((val xs : Nat) : Int) ((val ys : Nat) : Int)) := by
      show _ = _
      rcases Nat.lt_or_gt_of_ne hn with hn | hn
      · have := lt_of_nl hn; rw [cmpI_lt (by omega), cmpI_lt (by omega)]
      · have := lt_of_nl hn; rw [cmpI_gt (by omega), cmpI_gt (by omega)]
    have HN := Lib.hid hn
    clear hn
    go_enter Tryd.func20, Tryd.ntmps20
    go_wp2_with fail
    refine (HU.out _ h).mono ?_; rintro e w' ⟨rfl, rfl⟩
    go_wp2_with fail
    refine (HU'.out _ h').mono ?_; rintro e w' ⟨rfl, rfl⟩
    go_wp2_with fail
    refine (compare_int _ _ _).mono ?_; rintro e w' ⟨rfl, rfl⟩
    go_wp2_with fail
    go_ret
    exact ⟨ret_int HE.out, 0, rfl⟩
end Go.Proofs.YtjlfcnkndndgaaaDoor
