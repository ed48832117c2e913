/-
  The reference of layer 1: Mul, told of numbers. Written by wip/gen/r8.py.
-/
import Derived.Test.YtjlfcnkndndgaaaDoorR7
namespace Te
theorem val_set : ∀ (us : List Nat) (j d : Nat), j < us.length → val (us.set j d) + 256 ^ j * Tw.dg us j = val us + 256 ^ j * d
  | [], _, _, h => absurd h (by simp)
  | x :: us, 0, d, _ => by
    have : Tw.dg (x :: us) 0 = x := rfl
    rw [this, List.set_cons_zero, val_cons, val_cons]; omega
  | x :: us, j + 1, d, h => by
    have ih := val_set us j d (by simpa using h)
    have : Tw.dg (x :: us) (j + 1) = Tw.dg us j := rfl
    rw [this, List.set_cons_succ, val_cons, val_cons, B_eq, Nat.pow_succ, Nat.mul_comm (256 ^ j) 256, Nat.mul_assoc, Nat.mul_assoc]
    omega
def MulO (xs ys zs : List Nat) (i : Nat) : Prop := Ok zs ∧ val zs = val (xs.take i) * val ys
theorem MulO.start (xs ys : List Nat) (n : Nat) : MulO xs ys (List.replicate n 0) 0 := ⟨Ok.replicate n, by simp [val_replicate, val]⟩
def MulN (x : Nat) (ys zs us : List Nat) (i k cy : Nat) : Prop := Ok us ∧ cy < 256 ∧ val us + 256 ^ (i + k) * cy = val zs + 256 ^ i * (x * val (ys.take k))
theorem MulN.start (x : Nat) (ys : List Nat) {zs : List Nat} (h : Ok zs) (i : Nat) : MulN x ys zs zs i 0 0 := ⟨h, by omega, by simp [val]⟩
theorem MulN.step {x : Nat} {ys zs us : List Nat} {i k cy s : Nat} (h : MulN x ys zs us i k cy) (hj : i + k < us.length) (hx : x < 256) (hy : Ok ys) (hs : s = Tw.dg us (i + k) + cy + x * Tw.dg ys k) : MulN x ys zs (us.set (i + k) (s % 256)) i (k + 1) (s / 256) := by
  obtain ⟨h1, h2, h3⟩ := h
  have d1 : Tw.dg us (i + k) < 256 := dg_lt h1 _
  have d2 : Tw.dg ys k < 256 := dg_lt hy _
  have d3 : x * Tw.dg ys k ≤ 255 * 255 := Nat.mul_le_mul (by omega) (by omega)
  refine ⟨h1.set _ _ (by rw [B_eq]; omega), by omega, ?_⟩
  have e1 := val_set us (i + k) (s % 256) hj
  have e2 : val (ys.take (k + 1)) = val (ys.take k) + B ^ k * Tw.dg ys k := val_take_succ' ys k
  rw [e2, B_eq, Nat.mul_add, Nat.mul_add]
  have e3 : 256 ^ (i + (k + 1)) * (s / 256) = 256 ^ (i + k) * (256 * (s / 256)) := by rw [← Nat.add_assoc, Nat.pow_succ, Nat.mul_assoc]
  have e4 : 256 ^ (i + k) * (s % 256) + 256 ^ (i + k) * (256 * (s / 256)) = 256 ^ (i + k) * s := by rw [← Nat.mul_add, Nat.mod_add_div]
  have e5 : 256 ^ (i + k) * s = 256 ^ (i + k) * Tw.dg us (i + k) + 256 ^ (i + k) * cy + 256 ^ (i + k) * (x * Tw.dg ys k) := by rw [hs, Nat.mul_add, Nat.mul_add]
  have e6 : 256 ^ i * (x * (256 ^ k * Tw.dg ys k)) = 256 ^ (i + k) * (x * Tw.dg ys k) := by rw [Nat.pow_add, Nat.mul_left_comm x, Nat.mul_assoc]
  omega
theorem MulN.total {xs ys zs us : List Nat} {i k cy : Nat} (h : MulN (Tw.dg xs i) ys zs us i k cy) (h0 : MulO xs ys zs i) (hx : Ok xs) (hy : Ok ys) (hk : 0 < cy) : k ≤ ys.length := by
  obtain ⟨h1, h2, h3⟩ := h
  have e1 : val (xs.take (i + 1)) = val (xs.take i) + B ^ i * Tw.dg xs i := val_take_succ' xs i
  have l1 := val_take_lt hx (i + 1)
  have l2 := val_lt hy
  have l3 : val (ys.take k) ≤ val ys := by
    have := val_split ys k
    omega
  rw [B_eq] at e1 l1 l2
  have h4 : 256 ^ (i + k) ≤ val (xs.take (i + 1)) * val ys := by
    have a1 : 256 ^ (i + k) ≤ 256 ^ (i + k) * cy := Nat.le_mul_of_pos_right _ hk
    have a2 : 256 ^ i * (Tw.dg xs i * val (ys.take k)) ≤ 256 ^ i * (Tw.dg xs i * val ys) := Nat.mul_le_mul_left _ (Nat.mul_le_mul_left _ l3)
    rw [e1, Nat.add_mul, Nat.mul_assoc]
    have := h0.2
    omega
  have h5 : val (xs.take (i + 1)) * val ys < 256 ^ (i + 1) * 256 ^ ys.length := Nat.mul_lt_mul'' l1 l2
  rw [← Nat.pow_add] at h5
  have h6 : 256 ^ (i + k) < 256 ^ (i + 1 + ys.length) := Nat.lt_of_le_of_lt h4 h5
  have := (Nat.pow_lt_pow_iff_right (by omega)).1 h6
  omega
theorem MulN.done {xs ys zs us : List Nat} {i k : Nat} (h : MulN (Tw.dg xs i) ys zs us i k 0) (h0 : MulO xs ys zs i) (hk : ys.length ≤ k) : MulO xs ys us (i + 1) := by
  obtain ⟨h1, h2, h3⟩ := h
  have e1 : val (xs.take (i + 1)) = val (xs.take i) + B ^ i * Tw.dg xs i := val_take_succ' xs i
  refine ⟨h1, ?_⟩
  rw [val_take_all hk, h0.2, Nat.mul_zero, Nat.add_zero] at h3
  rw [h3, e1, B_eq, Nat.add_mul, Nat.mul_assoc]
end Te
namespace Go.Proofs.YtjlfcnkndndgaaaDoor
open Go.RowKit Tw

/-- The cells of small digits. -/
def cellsS (ys : List Nat) : Array Value := (ys.map fun (y : Nat) => Value.int .i64 (y : Int)).toArray
/-- Block g is just the digits ys; none is frozen. -/
def RowS (w : World) (g : Nat) (ys : List Nat) : Prop := w.heap[g]? = some (.cells (cellsS ys) 3 (0, 0))
section
variable {w w' : World} {g : Nat} {ys : List Nat}
theorem RowS.lt (h : RowS w g ys) : g < w.heap.size := (Array.getElem?_eq_some_iff.1 h).1
theorem RowS.cell (h : RowS w g ys) {k : Nat} (hk : k < ys.length) : w.cell? ⟨g, k, none⟩ = some (.int .i64 (dg ys k)) := by
  rw [cell_of_row w g k _ _ _ h]
  unfold cellsS
  rw [List.getElem?_toArray, List.getElem?_map, dg_get hk]
  rfl
theorem RowS.frozen (h : RowS w g ys) (k : Nat) : w.frozen? ⟨g, k, none⟩ = false := frozen_of_row w g k _ _ h
theorem RowS.set (h : RowS w g ys) (k x : Nat) : RowS (w.setCell ⟨g, k, none⟩ (.int .i64 (x : Int))) g (ys.set k x) := by
  have := heap_setCell_same w g k _ _ (.int .i64 (x : Int)) h
  unfold RowS
  rw [this]
  congr 2
  unfold cellsS
  rw [List.setIfInBounds_toArray, List.map_set]
theorem RowS.below (h : RowS w g ys) {B : Nat} (hb : Below B w w') (hB : g < B) : RowS w' g ys := (hb.block g hB).trans h
theorem RowS.drewN (h : RowS w g ys) (n : Nat) : RowS (w.drewN n) g ys := h
theorem RowS.new (w : World) (ys : List Nat) : RowS (w.alloc (.cells (cellsS ys) 3)) w.heap.size ys := heap_alloc_new w _
theorem RowS.sm (h : RowS w g ys) (ho : Te.Ok ys) : Sm w (some ⟨g, 0, none⟩) ys.length ys :=
  ⟨ho, Nat.le_refl _, (fun e => by cases e), fun _ => ⟨g, 0, rfl, fun k hk => by rw [Nat.zero_add]; exact h.cell hk⟩⟩
end
theorem cellsS_zero (n : Nat) : madeCells #[.int .i64 0] n = cellsS (List.replicate n 0) := by
  apply Array.ext'
  rw [toList_madeCells_one]
  simp [cellsS, List.map_replicate]

theorem und_ints : Tryd.prog.underlying 38 = some (.slice 3) := Tryd.underlying38
theorem make_ints (n : Nat) (hn : n ≤ 8000000) (w : World) :
    (Instr.makeSlice 38 (.int .i64 (n : Int)) (.int .i64 (n : Int))).run Tryd.prog w = .ok (.slice (some ⟨w.heap.size, 0, none⟩) n n) (w.alloc (.cells (cellsS (List.replicate n 0)) 3)) := by
  rw [← cellsS_zero]
  exact run_make_row' 38 3 (.int .i64 0) 8 und_ints infoInt rfl .i64 .i64 n (by omega) (by omega) w
set_option maxHeartbeats 4000000 in
theorem mul_r {w : World} {A A' : Option Addr} {c c' l l' n n' : Nat} (h : V w A c l n) (h' : V w A' c' l' n') (hl : l ≤ 40000) (hl' : l' ≤ 40000) :
    Calls Tryd.prog 30 #[.slice A l c, .slice A' l' c'] w (Tells w (n * n') (l + l' + 1)) := by
  have hn := h.lt
  have hn' := h'.lt
  go_enter Tryd.func30, Tryd.ntmps30
  go_wp2_with fail
  refine (small_v h (by omega)).mono ?_
  rintro e w1 ⟨A1, c1, l1, rfl, h1, b1⟩
  have s1 := h1.small hn
  go_wp2_with fail
  refine (small_v (h'.below b1) (by omega)).mono ?_
  rintro e w2 ⟨A2, c2, l2, rfl, h2, b2⟩
  have s2 := h2.small hn'
  replace h1 := h1.below b2
  replace b2 := below_trans b1 b2
  clear h h' hn hn' b1
  obtain ⟨xs, hxs⟩ : ∃ xs, xs = Te.limbs n := ⟨_, rfl⟩
  obtain ⟨ys, hys⟩ : ∃ ys, ys = Te.limbs n' := ⟨_, rfl⟩
  have HX : Hid (Sm w2 A1 c1 xs ∧ xs.length = l1) := by rw [hxs]; exact h1
  have HY : Hid (Sm w2 A2 c2 ys ∧ ys.length = l2) := by rw [hys]; exact h2
  have HE : Hid (Te.val xs * Te.val ys = n * n') := by show _ = _; rw [hxs, hys, Te.val_limbs, Te.val_limbs]
  clear h1 h2 hxs hys
  have hmk := make_ints (l1 + l2 + 1) (by omega)
  rw [show ((l1 + l2 + 1 : Nat) : Int) = (l1 : Int) + l2 + 1 from by omega] at hmk
  obtain ⟨g, hg⟩ : ∃ g, g = w2.heap.size := ⟨_, rfl⟩
  go_wp2_with fail
  rw [← hg]
  have HG := Lib.hid hg
  clear hg hmk
  go_loopw [8] (fun i wr => ∃ k : Nat, k ≤ l1 ∧ i = .int .i64 k ∧ ∃ zs, zs.length = l1 + l2 + 1 ∧ RowS wr g zs ∧ Te.MulO xs ys zs k ∧ Below w2.heap.size w2 wr) (fun i _ => l1 - (intOf i).toNat)
  case atStart => exact ⟨0, Nat.zero_le _, rfl, List.replicate (l1 + l2 + 1) 0, by simp, by rw [HG.out]; exact RowS.new w2 _, Te.MulO.start _ _ _, (Below.refl _ _).alloc (Nat.le_refl _) _⟩
  case round =>
    obtain ⟨k, hk, rfl, zs, hz, hr, hi, hb⟩ := hrel
    by_cases hlt : k < l1
    · have HZ := Lib.hid hz
      have HI := Lib.hid hi
      have dk : dg xs k < 256 := Te.dg_lt HX.out.1.ok k
      obtain ⟨ba, oa, rfl, ca⟩ := HX.out.1.cells (by rw [HX.out.2]; omega)
      have CA := Lib.hid (ca k (by rw [HX.out.2]; omega))
      clear hz hi ca
      obtain ⟨wo, hwo⟩ : ∃ wo : World, wo = wr := ⟨_, rfl⟩
      go_wp2_with fail
      go_loopw [9, 10] (fun cv jv wi => ∃ j cy : Nat, j ≤ l2 + 1 ∧ jv = .int .i64 j ∧ cv = .int .i64 cy ∧ ∃ us, us.length = l1 + l2 + 1 ∧ RowS wi g us ∧ Te.MulN (dg xs k) ys zs us k j cy ∧ Below w2.heap.size w2 wi) (fun _ jv _ => l2 + 1 - (intOf jv).toNat)
      case atStart => exact ⟨0, 0, Nat.zero_le _, rfl, rfl, zs, HZ.out, hr, Te.MulN.start _ _ HI.out.1 _, hb⟩
      case round =>
        clear hr hb hwo
        obtain ⟨j, cy, hj, rfl, rfl, us, hu, hru, hin, hbi⟩ := hrel
        have hcy : cy < 256 := hin.2.1
        have HUL := Lib.hid hu
        have hjt : 0 < cy → j ≤ l2 := fun hp => by rw [← HY.out.2]; exact hin.total HI.out HX.out.1.ok HY.out.1.ok hp
        have HIN := Lib.hid hin
        have du : dg us (k + j) < 256 := Te.dg_lt hin.1 (k + j)
        clear hu hin
        by_cases hjl : j < l2
        · have hcu := hru.cell (k := k + j) (by rw [HUL.out]; omega)
          have hfr := hru.frozen (k + j)
          obtain ⟨bb, ob, rfl, cb⟩ := HY.out.1.cells (by rw [HY.out.2]; omega)
          have hcx := (hbi.cell (World.block_lt_of_cell? w2 _ CA.out)).trans CA.out
          have hcb := (hbi.cell (World.block_lt_of_cell? w2 _ (cb j (by rw [HY.out.2]; exact hjl)))).trans (cb j (by rw [HY.out.2]; exact hjl))
          have dj : dg ys j < 256 := Te.dg_lt HY.out.1.ok j
          have i1 : (k : Int) < l1 := by omega
          have i2 : (j : Int) < l2 := by omega
          have i3 : (0 : Int) ≤ k := by omega
          have i4 : (0 : Int) ≤ j := by omega
          obtain ⟨p, hp⟩ : ∃ p, dg xs k * dg ys j = p := ⟨_, rfl⟩
          have hpb : p ≤ 65025 := by rw [← hp]; exact Nat.mul_le_mul (show dg xs k ≤ 255 by omega) (show dg ys j ≤ 255 by omega)
          have u1 : IntKind.i64.wrap (((dg xs k : Nat) : Int) * ((dg ys j : Nat) : Int)) = (p : Int) := by rw [← hp, IntWalk.i64_in _ (by rw [← Int.natCast_mul, hp]; omega)]; simp
          have HS := Lib.hid (HIN.out.step (s := dg us (k + j) + cy + p) (by rw [HUL.out]; omega) dk HY.out.1.ok (by rw [hp]))
          have u2 : IntKind.i64.wrap (((dg us (k + j) : Nat) : Int) + (cy : Int) + (p : Int)) = ((dg us (k + j) : Nat) : Int) + (cy : Int) + (p : Int) := IntWalk.i64_in _ (by omega)
          clear hp cb hjt
          go_wp2_with fail
          go_quiet (fail)
          go_wp2_with fail
          have hw : ((((dg us (k + j) : Nat) : Int) + (cy : Int) + (p : Int)) % 256) = (((dg us (k + j) + cy + p) % 256 : Nat) : Int) := by omega
          rw [hw]
          clear hw
          have HRU := Lib.hid ((hru.set (k + j) ((dg us (k + j) + cy + p) % 256)).drewN nq)
          have HBI := Lib.hid (below_drewN (hbi.setCell (p := ⟨g, k + j, none⟩) (by rw [HG.out]; exact Nat.le_refl _) (.int .i64 (((dg us (k + j) + cy + p) % 256 : Nat) : Int))) nq)
          go_roundw
          case rel => exact ⟨j + 1, (dg us (k + j) + cy + p) / 256, by omega, by go_num, by go_num, _, by rw [List.length_set]; exact HUL.out, HRU.out, HS.out, HBI.out⟩
          case measure => simp [intOf]; omega
        · have HYZ : Hid (dg ys j = 0) := Lib.hid (Tw.dg_past (by rw [HY.out.2]; omega))
          rcases Nat.eq_zero_or_pos cy with rfl | hcp
          · have HD := Lib.hid (HIN.out.done HI.out (by rw [HY.out.2]; omega))
            go_wp2_with fail
            go_roundw
            case rel => exact ⟨k + 1, by omega, by go_num, us, HUL.out, hru, HD.out, hbi⟩
            case measure => simp [intOf]; omega
          · have hjl2 := hjt hcp
            have hcu := hru.cell (k := k + j) (by rw [HUL.out]; omega)
            have hfr := hru.frozen (k + j)
            have i3 : (0 : Int) ≤ k := by omega
            have i4 : (0 : Int) ≤ j := by omega
            have HS := Lib.hid (HIN.out.step (s := dg us (k + j) + cy) (by rw [HUL.out]; omega) dk HY.out.1.ok (by rw [HYZ.out, Nat.mul_zero, Nat.add_zero]))
            clear hjt
            go_wp2_with fail
            have hw : ((((dg us (k + j) : Nat) : Int) + (cy : Int)) % 256) = (((dg us (k + j) + cy) % 256 : Nat) : Int) := by omega
            rw [hw]
            clear hw
            have HRU := Lib.hid (hru.set (k + j) ((dg us (k + j) + cy) % 256))
            have HBI := Lib.hid (hbi.setCell (p := ⟨g, k + j, none⟩) (by rw [HG.out]; exact Nat.le_refl _) (.int .i64 (((dg us (k + j) + cy) % 256 : Nat) : Int)))
            go_roundw
            case rel => exact ⟨j + 1, (dg us (k + j) + cy) / 256, by omega, by go_num, by go_num, _, by rw [List.length_set]; exact HUL.out, HRU.out, HS.out, HBI.out⟩
            case measure => simp [intOf]; omega
    · obtain rfl : k = l1 := by omega
      have hval : Te.val zs = n * n' := by rw [hi.2, ← HE.out, Te.val_take_all (by rw [HX.out.2]; omega)]
      have hsm := hr.sm hi.1
      rw [hz] at hsm
      have HL := Lib.hid (large_s hsm hz hval (by omega))
      clear hz hi hval hsm
      go_wp2_with fail
      refine HL.out.mono ?_
      rintro e w4 ⟨A4, c4, l4, rfl, h4, m4, b4⟩
      go_wp2_with fail
      go_ret
      exact ⟨A4, c4, l4, rfl, h4, by omega, below_trans b2 (below_trans hb b4)⟩
end Go.Proofs.YtjlfcnkndndgaaaDoor
