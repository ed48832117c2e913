/-
  Contracts of limbs: up, down.
-/
import Derived.Test.YtjlfcnkndndgaaaDoorBits
import Derived.Test.YtjlfcnkndndgaaaDoorShiftNum
namespace Go.Proofs.YtjlfcnkndndgaaaDoor
open Go.RowKit Tw


theorem cast_div64 (a s : Nat) : ∃ d : Nat, (a : Int) / 2 ^ s = (d : Int) ∧ d = a / 2 ^ s := ⟨a / 2 ^ s, by simp, rfl⟩

theorem up_facts {xs ts : List Nat} {W p i x : Nat} (h : UpInv xs ts W p i) (hp : p < 64) :
    ∃ a b : Nat, IntKind.u64.wrap ((x : Int) * 2 ^ p) = (a : Int) ∧ bits BinOp.or IntKind.u64 ((dg ts (i + W) : Nat) : Int) (a : Int) = (b : Int) ∧ b = dg ts (i + W) + x * 2 ^ p % B := by
  have h1 := h.low (x := x) (by omega)
  refine ⟨x * 2 ^ p % B, dg ts (i + W) + x * 2 ^ p % B, ?_, ?_, rfl⟩
  · rw [IntKind.wrap_u64, B_eq]; simp
  · rw [bits_or_u64_nat _ _ (by rw [← B_eq]; omega) (by rw [← B_eq]; exact Nat.mod_lt _ B_pos), h.or_ (by omega)]

set_option maxRecDepth 100000 in
set_option maxHeartbeats 1000000 in
theorem up_pos (A : Option Addr) (c n W p : Nat) (xs : List Nat) (w : World) (h : Nums w A c xs) (hs : xs.length ≤ 1000000) (hx0 : val xs ≠ 0) (hW : Hid (n = 64 * W + p)) (hp : p < 64) (hn : n ≤ 100000000) :
    Calls Tryd.prog 77 #[.slice A xs.length c, .int .i64 (n : Int)] w (Ret w (val xs * 2 ^ n)) := by
  have hl := nl_val h.ok
  have HU := Lib.hid (used_any A c xs w h (by omega))
  obtain ⟨m, hm⟩ : ∃ m, m = nl (val xs) := ⟨_, rfl⟩
  rw [← hm] at hl HU
  have p1 : ((m : Int) == 0) = false := by simp [hm, nl_eq_zero, hx0]
  have hmp : 0 < m := by have : m ≠ 0 := by rw [hm]; exact fun e => hx0 (nl_eq_zero.1 e)
                         omega
  obtain ⟨b, off, rfl, hcx⟩ := h.cells (by omega)
  have HX := Lib.hid hcx
  have HM := Lib.hid hm
  have q1 : (n : Int) / 64 = (W : Int) := by have := hW.out; omega
  have q2 : (n : Int) % 64 = (p : Int) := by have := hW.out; omega
  have hWn : W ≤ 2000000 := by have := hW.out; omega
  have hmk := make_words (m + W + 1) (by omega)
  rw [show ((m + W + 1 : Nat) : Int) = (m : Int) + W + 1 from by omega] at hmk
  obtain ⟨g, hg⟩ : ∃ g, g = w.heap.size := ⟨_, rfl⟩
  clear hm hcx hx0
  go_enter Tryd.func77, Tryd.ntmps77
  go_wp2_with fail
  refine HU.out.mono ?_; rintro e w' ⟨rfl, rfl⟩
  go_wp2_with fail
  rw [← hg]
  have HG := Lib.hid hg
  clear hg hmk q1 q2
  go_loopw [25] (fun i wr => ∃ k : Nat, k ≤ m ∧ i = .int .i64 k ∧ ∃ ts, ts.length = m + W + 1 ∧ Row wr g ts ∧ UpInv xs ts W p k ∧ Below w.heap.size w wr) (fun i _ => m - (intOf i).toNat)
  case atStart => exact ⟨0, Nat.zero_le _, rfl, List.replicate (m + W + 1) 0, by simp, by rw [HG.out]; exact Row.new w _, UpInv.start _ _ _ _, (Below.refl _ _).alloc (Nat.le_refl _) _⟩
  case round =>
    obtain ⟨k, hk, rfl, ts, ht, hr, hi, hb⟩ := hrel
    by_cases hlt : k < m
    · have hcell := (hb.cell (p := ⟨b, off + k, none⟩) (World.block_lt_of_cell? w _ (HX.out k (by omega)))).trans (HX.out k (by omega))
      have hne : b ≠ g := by have := World.block_lt_of_cell? w _ (HX.out k (by omega)); have := HG.out; simp at *; omega
      have hct := hr.cell (k := k + W) (by omega)
      have hfr := hr.frozen (k + W)
      obtain ⟨a1, b1, f1, f2, f3⟩ := up_facts (x := dg xs k) hi hp
      have r1 := hr.set (k + W) b1
      have hct2 := r1.cell (k := k + W + 1) (by rw [List.length_set]; omega)
      have hfr2 := r1.frozen (k + W + 1)
      have hcell2 : (wr.setCell ⟨g, k + W, none⟩ (.int .u64 (b1 : Int))).cell? ⟨b, off + k, none⟩ = some (.int .u64 (dg xs k)) := by
        rw [World.cell?_setCell_other _ _ _ _ (by intro e; injection e with e1; omega), hcell]
      have i1 : (k : Int) < xs.length := by omega
      have i2 : (0 : Int) ≤ k := by omega
      have i3 : (0 : Int) ≤ (k : Int) + W := by omega
      have i4 : (k : Int) + W < ((m + W + 1 : Nat) : Int) := by omega
      obtain ⟨d1, f4, f5⟩ := cast_div64 (dg xs k) (64 - p)
      have HT := Lib.hid ht
      have F3 := Lib.hid (And.intro f3 f5)
      clear ht f3 f5
      go_wp2_with fail
      go_region
      go_wp2_with fail
      go_roundw
      case rel => exact ⟨k + 1, by omega, by go_num, (ts.set (k + W) b1).set (k + W + 1) d1, by rw [List.length_set, List.length_set]; exact HT.out, (r1.set (k + W + 1) d1).drew, by rw [F3.out.1, F3.out.2]; exact hi.step h.ok (by omega) (by have := HT.out; omega), ((hb.setCell (by rw [HG.out]; exact Nat.le_refl _) _).setCell (by rw [HG.out]; exact Nat.le_refl _) _).drew⟩
      case measure => simp [intOf]; omega
    · obtain rfl : k = m := by omega
      have hv := hi.done h.ok (by rw [← HM.out]; exact Nat.le_refl _) ht
      rw [← hW.out] at hv
      have htd := tidy_row g (k + W + 1) ts wr hr hi.1 (by omega) (by omega) w.heap.size (val xs * 2 ^ n) (by rw [HG.out]; exact Nat.le_refl _) (by rw [List.take_of_length_le (by omega)]; exact hv)
      rw [ht] at htd
      have HT := Lib.hid htd
      clear htd hv ht
      go_wp2_with fail
      refine HT.out.mono ?_; rintro e w' ⟨A1, c1, rfl, ho1, rfl⟩
      go_wp2_with fail
      go_ret
      exact ⟨A1, c1, rfl, ho1, hb⟩

theorem up_any (A : Option Addr) (c n : Nat) (xs : List Nat) (w : World) (h : Nums w A c xs) (hs : xs.length ≤ 1000000) (hn : n ≤ 100000000) :
    Calls Tryd.prog 77 #[.slice A xs.length c, .int .i64 (n : Int)] w (Ret w (val xs * 2 ^ n)) := by
  by_cases hx0 : val xs = 0
  · have HR : Hid (Ret w (val xs * 2 ^ n) (.returned (.slice none 0 0)) w) := ⟨none, 0, by rw [hx0, Nat.zero_mul]; rfl, .inl ⟨by rw [hx0, Nat.zero_mul], rfl, rfl⟩, Below.refl _ _⟩
    have HU := Lib.hid (used_any A c xs w h (by omega))
    rw [show nl (val xs) = 0 by rw [hx0]; rfl] at HU
    clear hx0
    go_enter Tryd.func77, Tryd.ntmps77
    go_wp2_with fail
    refine HU.out.mono ?_; rintro e w' ⟨rfl, rfl⟩
    go_wp2_with fail
    go_ret
    exact HR.out
  · exact up_pos A c n (n / 64) (n % 64) xs w h hs hx0 (show n = 64 * (n / 64) + n % 64 by omega) (by omega) hn

/-- What down leaves: the slice anew at the head of block g, tidy. -/
def DownPost (w : World) (g v : Nat) (e : Ending) (w' : World) : Prop := ∃ A c, e = .returned (.slice A (nl v) c) ∧ OwnAt w' g A c v ∧ w.grownBy w' (some g)

theorem down_facts {x y p : Nat} (hx : x < B) (hp : p < 64) : ∃ a b d : Nat, (x : Int) / 2 ^ p = (a : Int) ∧ IntKind.u64.wrap ((y : Int) * 2 ^ (64 - p)) = (b : Int) ∧ bits BinOp.or IntKind.u64 (a : Int) (b : Int) = (d : Int) ∧ d = x / 2 ^ p + y % 2 ^ p * 2 ^ (64 - p) := by
  obtain ⟨e1, e2⟩ := shr_digit (y := y) hx (p := p) (by omega)
  refine ⟨x / 2 ^ p, y * 2 ^ (64 - p) % B, _, by simp, ?_, ?_, rfl⟩
  · rw [IntKind.wrap_u64, B_eq]; simp
  · rw [bits_or_u64_nat _ _ (by rw [← B_eq]; exact Nat.lt_of_le_of_lt (Nat.div_le_self _ _) hx) (by rw [← B_eq]; exact Nat.mod_lt _ B_pos), e1]

/-- A digit by its reader, the place written as a sum. -/
theorem read_at (g : Nat) (A : Option Addr) (c n i : Nat) (z : Int) (xs : List Nat) (w : World) (hz : z = (i : Int)) (hn : xs.length = n) (hg : w.cell? ⟨g, 0, none⟩ = some (.slice A n c)) (h : Nums w A c xs) (d : Nat) (hd : dg xs i = d) :
    Calls Tryd.prog 91 #[.int .i64 z, .pointer (some ⟨g, 0, none⟩)] w fun e w' => e = .returned (.int .u64 (d : Int)) ∧ w = w' := by
  subst hz hn hd
  exact read_any g A c i xs w hg h

set_option maxRecDepth 100000 in
set_option maxHeartbeats 1000000 in
theorem down_some (g n s W p K : Nat) (zs : List Nat) (w : World) (hr : Row w g zs) (ho : Ok zs) (hn : n ≤ zs.length) (hs : n ≤ 4000000) (hW : Hid (s = 64 * W + p)) (hp : p < 64) (hK : Hid (n = W + K)) (hKp : 0 < K) (hs1 : s ≤ 1000000000) :
    Calls Tryd.prog 79 #[.slice (some ⟨g, 0, none⟩) n zs.length, .int .i64 (s : Int)] w (DownPost w g (val (zs.take n) / 2 ^ s)) := by
  have q1 : (s : Int) / 64 = (W : Int) := by have := hW.out; omega
  have q2 : (s : Int) % 64 = (p : Int) := by have := hW.out; omega
  have q3 : (n : Int) - (W : Int) = (K : Int) := by have := hK.out; omega
  have hWn : W < n := by have := hK.out; omega
  have hKn : K ≤ n := by have := hK.out; omega
  have hg := hr.lt
  have hlen : (zs.take n).length = n := by rw [List.length_take]; omega
  have HL := Lib.hid hlen
  clear hlen
  go_enter Tryd.func79, Tryd.ntmps79
  go_wp2_with fail
  refine (reader_any _ _ _ _).mono ?_; rintro e w1 ⟨g1, rfl, hx1, hg1, hb1⟩
  have hr1 := hr.below hb1 hg
  clear q2
  go_wp2_with fail
  clear q1 q3
  go_loopw [26] (fun i wr => ∃ k : Nat, k ≤ K ∧ i = .int .i64 k ∧ ∃ us, us.length = zs.length ∧ Row wr g us ∧ DownInv (zs.take n) us W p k ∧ w1.grownBy wr (some g)) (fun i _ => K - (intOf i).toNat)
  case atStart => exact ⟨0, Nat.zero_le _, rfl, zs, rfl, hr1, DownInv.start W p n ho, World.grownBy.refl _ _⟩
  case round =>
    obtain ⟨k, hk, rfl, us, hu, hru, hi, hgr⟩ := hrel
    have hul : (us.take n).length = n := by rw [List.length_take]; omega
    by_cases hlt : k < K
    · have hN : Nums wr (some ⟨g, 0, none⟩) zs.length (us.take n) := by rw [← hu]; exact (hru.nums hi.1).front n
      have hbx := (hx1.grown hgr (by simp; omega)).cell
      have e1 : dg (us.take n) (W + k) = dg (zs.take n) (W + k) := by have := hi.read (k := W + k) (by omega) (by rw [HL.out]; omega); rwa [HL.out] at this
      have e2 : dg (us.take n) (W + k + 1) = dg (zs.take n) (W + k + 1) := by have := hi.read (k := W + k + 1) (by omega) (by rw [HL.out]; omega); rwa [HL.out] at this
      have HC1 := Lib.hid (read_at g1 _ _ n (W + k) ((k : Int) + W) _ wr (by omega) hul hbx hN _ e1)
      have HC2 := Lib.hid (read_at g1 _ _ n (W + k + 1) ((k : Int) + W + 1) _ wr (by omega) hul hbx hN _ e2)
      have hcell := hru.cell (k := k) (by have := hK.out; omega)
      have hfr := hru.frozen k
      obtain ⟨a, b, d, f1, f2, f3, f4⟩ := down_facts (x := dg (zs.take n) (W + k)) (y := dg (zs.take n) (W + k + 1)) (p := p) (dg_lt (ho.take n) _) hp
      have F4 := Lib.hid f4
      have HU := Lib.hid hu
      have HUL := Lib.hid hul
      clear hu hul hbx hN e1 e2 f4
      go_wp2_with fail
      refine HC1.out.mono ?_; rintro e w' ⟨rfl, rfl⟩
      go_wp2_with fail
      refine HC2.out.mono ?_; rintro e w' ⟨rfl, rfl⟩
      go_wp2_with fail
      go_roundw
      case rel => exact ⟨k + 1, by omega, by go_num, us.set k d, by rw [List.length_set]; exact HU.out, hru.set k d, by rw [F4.out]; exact hi.step (ho.take n) (by omega) (by have := HU.out; have := hK.out; omega), grown_set hgr (.inl rfl) _⟩
      case measure => simp [intOf]; omega
    · obtain rfl : k = K := by omega
      have hv := hi.done (ho.take n) (by rw [HL.out]; exact hK.out.symm)
      rw [← hW.out] at hv
      have htd := tidy_at g k us wr hru hi.1 (by omega) (by omega) _ hv
      rw [hu] at htd
      have HT := Lib.hid htd
      have HV := Lib.hid (And.intro hv hu)
      clear htd hv hu hul
      go_wp2_with fail
      refine HT.out.mono ?_; rintro e w' ⟨A1, c1, rfl, ho1, rfl⟩
      go_wp2_with fail
      go_ret
      exact ⟨A1, c1, rfl, ho1, grown_trans (grown_below hb1 _) hgr⟩

theorem down_any (g n s : Nat) (zs : List Nat) (w : World) (hr : Row w g zs) (ho : Ok zs) (hn : n ≤ zs.length) (hs : n ≤ 4000000) (hs1 : s ≤ 9223372036854775807) :
    Calls Tryd.prog 79 #[.slice (some ⟨g, 0, none⟩) n zs.length, .int .i64 (s : Int)] w (DownPost w g (val (zs.take n) / 2 ^ s)) := by
  by_cases hW : s / 64 < n
  · exact down_some g n s (s / 64) (s % 64) (n - s / 64) zs w hr ho hn hs (show s = 64 * (s / 64) + s % 64 by omega) (by omega) (show n = s / 64 + (n - s / 64) by omega) (by omega) (by omega)
  · have h0 : val (zs.take n) / 2 ^ s = 0 := by
      apply Nat.div_eq_of_lt
      refine Nat.lt_of_lt_of_le (val_take_lt ho n) ?_
      rw [← pow_B]
      exact Nat.pow_le_pow_right (by omega) (by omega)
    have HR : Hid (DownPost w g (val (zs.take n) / 2 ^ s) (.returned (.slice none 0 0)) w) := by rw [h0]; exact ⟨none, 0, rfl, .inl ⟨rfl, rfl, rfl⟩, World.grownBy.refl _ _⟩
    obtain ⟨W, hWe⟩ : ∃ W, W = s / 64 := ⟨_, rfl⟩
    have q1 : (s : Int) / 64 = (W : Int) := by omega
    have hWn : n ≤ W := by omega
    have q4 : wrap64 (W : Int) = (W : Int) := IntWalk.wrap64_in _ ⟨by omega, by omega⟩
    clear h0 hW hWe hs1
    go_enter Tryd.func79, Tryd.ntmps79
    go_wp2_with fail
    go_ret
    exact HR.out
end Go.Proofs.YtjlfcnkndndgaaaDoor
