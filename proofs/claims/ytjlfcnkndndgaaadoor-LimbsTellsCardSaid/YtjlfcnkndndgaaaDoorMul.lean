/-
  Contract of limbs: Mul.
-/
import Derived.Test.YtjlfcnkndndgaaaDoorBits
namespace Go.Proofs.YtjlfcnkndndgaaaDoor
open Go.RowKit Tw

theorem wrN {a b : Nat} (h : a + b < B) : IntKind.u64.wrap ((a : Int) + (b : Int)) = ((a + b : Nat) : Int) := by
  rw [B_eq] at h
  rw [IntKind.wrap_u64]; omega

theorem add64z (x y : Nat) (w : World) : (callFunc 71 #[.int .u64 (x : Int), .int .u64 (y : Int), .int .u64 0]).run Tryd.prog w =
    .ok (.value (.tuple #[.int .u64 (((x + y) % B : Nat) : Int), .int .u64 (((x + y) / B : Nat) : Int)])) w := add64 x y 0 (by omega) w

/-- One place of a product: what is reckoned, under names. -/
theorem place_facts {x y z cy : Nat} (hx : x < B) (hy : y < B) (hz : z < B) (hc : cy < B) : ∃ h0 l0 l1 c1 l2 c2 h1 h2 : Nat,
    (∀ W, Calls Tryd.prog 70 #[.int .u64 (x : Int), .int .u64 (y : Int)] W fun e w' => e = .returned (.tuple #[.int .u64 (h0 : Int), .int .u64 (l0 : Int)]) ∧ W = w') ∧
    (∀ W, (callFunc 71 #[.int .u64 (l0 : Int), .int .u64 (z : Int), .int .u64 0]).run Tryd.prog W = .ok (.value (.tuple #[.int .u64 (l1 : Int), .int .u64 (c1 : Int)])) W) ∧ IntKind.u64.wrap ((h0 : Int) + (c1 : Int)) = (h1 : Int) ∧
    (∀ W, (callFunc 71 #[.int .u64 (l1 : Int), .int .u64 (cy : Int), .int .u64 0]).run Tryd.prog W = .ok (.value (.tuple #[.int .u64 (l2 : Int), .int .u64 (c2 : Int)])) W) ∧ IntKind.u64.wrap ((h1 : Int) + (c2 : Int)) = (h2 : Int) ∧
    l2 < B ∧ h2 < B ∧ l2 + B * h2 = x * y + z + cy := by
  obtain ⟨e1, e2⟩ := mul_digit hx hy hz hc
  exact ⟨_, _, _, _, _, _, _, _, fun W => mul64 x y hx hy W, fun W => add64z _ _ W, wrN (Nat.lt_of_le_of_lt (Nat.le_add_right _ _) e2), fun W => add64z _ _ W, wrN e2, Nat.mod_lt _ B_pos, e2, e1⟩

set_option maxRecDepth 100000 in
set_option maxHeartbeats 2000000 in
theorem mul_pos (A A' : Option Addr) (c c' : Nat) (xs ys : List Nat) (w : World) (h : Nums w A c xs) (h' : Nums w A' c' ys) (hs : xs.length ≤ 1000000) (hs' : ys.length ≤ 1000000) (hx0 : val xs ≠ 0) (hy0 : val ys ≠ 0) :
    Calls Tryd.prog 17 #[.slice A xs.length c, .slice A' ys.length c'] w (Ret w (val xs * val ys)) := by
  have hl := nl_val h.ok
  have hl' := nl_val h'.ok
  have HU := Lib.hid (used_any A c xs w h (by omega))
  have HU' := Lib.hid (used_any A' c' ys w h' (by omega))
  obtain ⟨n, hn⟩ : ∃ n, n = nl (val xs) := ⟨_, rfl⟩
  obtain ⟨m, hm⟩ : ∃ m, m = nl (val ys) := ⟨_, rfl⟩
  rw [← hn] at hl HU
  rw [← hm] at hl' HU'
  have p1 : ((n : Int) == 0) = false := by simp [hn, nl_eq_zero, hx0]
  have p2 : ((m : Int) == 0) = false := by simp [hm, nl_eq_zero, hy0]
  have hnp : 0 < n := by have : n ≠ 0 := by rw [hn]; exact fun e => hx0 (nl_eq_zero.1 e)
                         omega
  have hmp : 0 < m := by have : m ≠ 0 := by rw [hm]; exact fun e => hy0 (nl_eq_zero.1 e)
                         omega
  obtain ⟨b, off, rfl, hcx⟩ := h.cells (by omega)
  obtain ⟨b', off', rfl, hcy⟩ := h'.cells (by omega)
  have HX := Lib.hid hcx
  have HY := Lib.hid hcy
  have HNM := Lib.hid (And.intro hn hm)
  have hmk := make_words (n + m) (by omega)
  rw [show ((n + m : Nat) : Int) = (n : Int) + m from by omega] at hmk
  obtain ⟨g, hg⟩ : ∃ g, g = w.heap.size := ⟨_, rfl⟩
  clear hn hm hcx hcy hx0 hy0
  go_enter Tryd.func17, Tryd.ntmps17
  go_wp2_with fail
  refine HU.out.mono ?_; rintro e w' ⟨rfl, rfl⟩
  go_wp2_with fail
  refine HU'.out.mono ?_; rintro e w' ⟨rfl, rfl⟩
  go_wp2_with fail
  rw [← hg]
  have HG := Lib.hid hg
  clear hg hmk
  go_loopw [29] (fun i wr => ∃ k : Nat, k ≤ n ∧ i = .int .i64 k ∧ ∃ zs, zs.length = n + m ∧ Row wr g zs ∧ MulOut xs ys zs m k ∧ Below w.heap.size w wr) (fun i _ => n - (intOf i).toNat)
  case atStart => exact ⟨0, Nat.zero_le _, rfl, List.replicate (n + m) 0, by simp, by rw [HG.out]; exact Row.new w _, MulOut.start _ _ _ _, (Below.refl _ _).alloc (Nat.le_refl _) _⟩
  case round =>
    obtain ⟨k, hk, rfl, zs, hz, hr, hi, hb⟩ := hrel
    by_cases hlt : k < n
    · have hcell := (hb.cell (p := ⟨b, off + k, none⟩) (World.block_lt_of_cell? w _ (HX.out k (by omega)))).trans (HX.out k (by omega))
      have HZ := Lib.hid hz
      have HC := Lib.hid hcell
      clear hz hcell
      obtain ⟨wo, hwo⟩ : ∃ wo : World, wo = wr := ⟨_, rfl⟩
      go_wp2_with fail
      go_loopw [9, 33] (fun cv jv wi => ∃ j cy : Nat, j ≤ m ∧ jv = .int .i64 j ∧ cv = .int .u64 cy ∧ ∃ us, us.length = n + m ∧ Row wi g us ∧ MulIn (dg xs k) ys zs us k j cy ∧ Below w.heap.size w wi) (fun _ jv _ => m - (intOf jv).toNat)
      case atStart => exact ⟨0, 0, Nat.zero_le _, rfl, rfl, zs, HZ.out, hr, MulIn.start _ _ hi.1 _, hb⟩
      case round =>
        obtain ⟨j, cy, hj, rfl, rfl, us, hu, hru, hin, hbi⟩ := hrel
        by_cases hjl : j < m
        · have hcy := (hbi.cell (p := ⟨b', off' + j, none⟩) (World.block_lt_of_cell? w _ (HY.out j (by omega)))).trans (HY.out j (by omega))
          have hcx := (hbi.cell (p := ⟨b, off + k, none⟩) (World.block_lt_of_cell? w _ (HX.out k (by omega)))).trans (HX.out k (by omega))
          have hcu := hru.cell (k := k + j) (by omega)
          have hfr := hru.frozen (k + j)
          have i1 : (k : Int) < xs.length := by omega
          have i2 : (j : Int) < ys.length := by omega
          have i3 : (0 : Int) ≤ k := by omega
          have i4 : (0 : Int) ≤ j := by omega
          obtain ⟨h0, l0, l1, c1, l2, c2, h1, h2, f1, f2, f3, f4, f5, f6, f7, f8⟩ := place_facts (dg_lt h.ok k) (dg_lt h'.ok j) (dg_lt hin.1 (k + j)) hin.2.1
          have F1 := Lib.hid f1
          have F6 := Lib.hid (And.intro f6 (And.intro f7 f8))
          have HUL := Lib.hid hu
          clear f1 f6 f7 f8 hu
          go_wp2_with fail
          go_quiet ((go_at_call 70; first | exact quiet_at (F1.out _) | exact quiet_at2 (F1.out _)))
          go_wp2_with fail
          go_roundw
          case rel => exact ⟨j + 1, h2, by omega, by go_num, rfl, us.set (k + j) l2, by rw [List.length_set]; exact HUL.out, (hru.set (k + j) l2).drewN _, hin.step (by have := HUL.out; omega) F6.out.1 F6.out.2.1 F6.out.2.2, below_drewN (hbi.setCell (by rw [HG.out]; exact Nat.le_refl _) _) _⟩
          case measure => simp [intOf]; omega
        · obtain rfl : j = m := by omega
          have hcu := hru.cell (k := k + j) (by omega)
          have hfr := hru.frozen (k + j)
          have HUL := Lib.hid hu
          clear hu
          go_wp2_with fail
          go_roundw
          case rel => exact ⟨k + 1, by omega, by go_num, us.set (k + j) cy, by rw [List.length_set]; exact HUL.out, hru.set (k + j) cy, hin.done hi (by have := HUL.out; omega), hbi.setCell (by rw [HG.out]; exact Nat.le_refl _) _⟩
          case measure => simp [intOf]; omega
    · obtain rfl : k = n := by omega
      have hv := hi.done h.ok h'.ok (by rw [← HNM.out.1]; exact Nat.le_refl _) (by rw [← HNM.out.2]; exact Nat.le_refl _) hz
      have ht := tidy_row g (k + m) zs wr hr hi.1 (by omega) (by omega) w.heap.size (val xs * val ys) (by rw [HG.out]; exact Nat.le_refl _) (by rw [List.take_of_length_le (by omega)]; exact hv)
      rw [hz] at ht
      have HT := Lib.hid ht
      clear ht hv hz
      go_wp2_with fail
      refine HT.out.mono ?_; rintro e w' ⟨A1, c1, rfl, ho1, rfl⟩
      go_wp2_with fail
      go_ret
      exact ⟨A1, c1, rfl, ho1, hb⟩

theorem mul_any (A A' : Option Addr) (c c' : Nat) (xs ys : List Nat) (w : World) (h : Nums w A c xs) (h' : Nums w A' c' ys) (hs : xs.length ≤ 1000000) (hs' : ys.length ≤ 1000000) :
    Calls Tryd.prog 17 #[.slice A xs.length c, .slice A' ys.length c'] w (Ret w (val xs * val ys)) := by
  by_cases hx0 : val xs = 0
  · have HR : Hid (Ret w (val xs * val ys) (.returned (.slice none 0 0)) w) := ⟨none, 0, by rw [hx0, Nat.zero_mul]; rfl, .inl ⟨by rw [hx0, Nat.zero_mul], rfl, rfl⟩, Below.refl _ _⟩
    have HU := Lib.hid (used_any A c xs w h (by omega))
    have HU' := Lib.hid (used_any A' c' ys w h' (by omega))
    rw [show nl (val xs) = 0 by rw [hx0]; rfl] at HU
    clear hx0
    go_enter Tryd.func17, Tryd.ntmps17
    go_wp2_with fail
    refine HU.out.mono ?_; rintro e w' ⟨rfl, rfl⟩
    go_wp2_with fail
    refine HU'.out.mono ?_; rintro e w' ⟨rfl, rfl⟩
    go_wp2_with fail
    go_ret
    exact HR.out
  · by_cases hy0 : val ys = 0
    · have HR : Hid (Ret w (val xs * val ys) (.returned (.slice none 0 0)) w) := ⟨none, 0, by rw [hy0, Nat.mul_zero]; rfl, .inl ⟨by rw [hy0, Nat.mul_zero], rfl, rfl⟩, Below.refl _ _⟩
      have HU := Lib.hid (used_any A c xs w h (by omega))
      have HU' := Lib.hid (used_any A' c' ys w h' (by omega))
      have p1 : (((nl (val xs) : Nat) : Int) == 0) = false := by simp [nl_eq_zero, hx0]
      rw [show nl (val ys) = 0 by rw [hy0]; rfl] at HU'
      clear hx0 hy0
      go_enter Tryd.func17, Tryd.ntmps17
      go_wp2_with fail
      refine HU.out.mono ?_; rintro e w' ⟨rfl, rfl⟩
      go_wp2_with fail
      refine HU'.out.mono ?_; rintro e w' ⟨rfl, rfl⟩
      go_wp2_with fail
      go_ret
      exact HR.out
    · exact mul_pos A A' c c' xs ys w h h' hs hs' hx0 hy0
end Go.Proofs.YtjlfcnkndndgaaaDoor
