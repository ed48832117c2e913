/-
  math/bits.Div64: two digits by one.
-/
import Derived.Test.YtjlfcnkndndgaaaDoorBits
import Derived.Test.YtjlfcnkndndgaaaDoorDivNum
import Derived.Deep.DeepCutAuto
import Derived.Deep.CutBlock
import Derived.Lib.ItoaNum
namespace Go.Proofs.YtjlfcnkndndgaaaDoor
open Go.RowKit Tw

theorem wr {z : Int} {n : Nat} (h : z = (n : Int)) (hn : n < B) : IntKind.u64.wrap z = (n : Int) := by
  rw [B_eq] at hn
  rw [IntKind.wrap_u64, h]; omega
theorem wrm (z : Int) : ∃ m : Nat, IntKind.u64.wrap z = (m : Int) ∧ (m : Int) = z % 18446744073709551616 := by
  refine ⟨(z % 18446744073709551616).toNat, ?_, ?_⟩
  · rw [IntKind.wrap_u64]; omega
  · omega
/-- (x + d) - p, wrapped at each step, is what it is if that is a digit. -/
theorem sub_wrap {x d p : Int} {t : Nat} (h : x + d = p + t) (ht : t < B) : IntKind.u64.wrap (IntKind.u64.wrap (IntKind.u64.wrap x + d) - IntKind.u64.wrap p) = (t : Int) := by
  rw [B_eq] at ht
  simp only [IntKind.wrap_u64]
  omega
theorem dec_true {p : Prop} [Decidable p] (h : p) : decide p = true := decide_eq_true h
theorem dec_false {p : Prop} [Decidable p] (h : ¬ p) : decide p = false := decide_eq_false h

/-- What a round reckons with. -/
theorem round_facts {u d y1 y0 q r : Nat} (hi : HIn u d y1 y0) (hr : r < H) :
    (q < H → IntKind.u64.wrap ((q : Int) * (y0 : Int)) = ((q * y0 : Nat) : Int)) ∧ IntKind.u64.wrap (4294967296 * (r : Int)) = ((H * r : Nat) : Int) ∧ IntKind.u64.wrap (((H * r : Nat) : Int) + (d : Int)) = ((H * r + d : Nat) : Int) ∧
      IntKind.u64.wrap ((r : Int) + (y1 : Int)) = ((r + y1 : Nat) : Int) := by
  have h1 := hi.hd
  have h2 := hi.hy0
  have h3 := hi.hy1
  have h4 : H * r + H ≤ B := by rw [← HH, ← Nat.mul_succ]; exact Nat.mul_le_mul_left _ hr
  have h5 : H ≤ B := by decide
  refine ⟨fun hq => wr (by simp) ?_, wr (by rw [H_eq]; omega) (by omega), wr (by omega) (by omega), wr (by omega) ?_⟩
  · have : q * y0 ≤ q * H := Nat.mul_le_mul_left _ (by omega)
    have : q * H < H * H := Nat.mul_lt_mul_of_pos_right hq H_pos
    rw [← HH]; omega
  · rw [B_eq]; rw [H_eq] at hr h3; omega

/-- One time less: what is reckoned. -/
theorem dec_facts {u d y1 y0 q r : Nat} (hi : HIn u d y1 y0) (hr : r < H) (hv : HInv u d y1 y0 q r) (ht : H ≤ q ∨ H * r + d < q * y0) :
    ∃ q' r' : Nat, IntKind.u64.wrap ((q : Int) - 1) = (q' : Int) ∧ IntKind.u64.wrap ((r : Int) + (y1 : Int)) = (r' : Int) ∧
      ((decide ((4294967296 : Int) ≤ (r' : Int)) = false ∧ Hid (q' < q ∧ r' < H ∧ HInv u d y1 y0 q' r')) ∨ (decide ((4294967296 : Int) ≤ (r' : Int)) = true ∧ Hid (q' = (u * H + d) / (y1 * H + y0)))) := by
  obtain ⟨h1, h2, h3⟩ := hv.dec hi ht
  have hb : H < B := by decide
  refine ⟨q - 1, r + y1, wr (by omega) (by omega), (round_facts (q := q) hi hr).2.2.2, ?_⟩
  by_cases h : H ≤ r + y1
  · exact .inr ⟨dec_true (by rw [H_eq] at h; omega), h2.break_ hi h3 h⟩
  · exact .inl ⟨dec_false (by rw [H_eq] at h; omega), by omega, by omega, h2⟩

def RoundA (_u _d y1 _y0 q r : Nat) (q' r' : Nat) : Prop := decide ((4294967296 : Int) ≤ (q : Int)) = true ∧ IntKind.u64.wrap ((q : Int) - 1) = (q' : Int) ∧ IntKind.u64.wrap ((r : Int) + (y1 : Int)) = (r' : Int)
def RoundB (_u d _y1 y0 q r : Nat) (m k1 k2 : Nat) : Prop := decide ((4294967296 : Int) ≤ (q : Int)) = false ∧ IntKind.u64.wrap ((q : Int) * (y0 : Int)) = (m : Int) ∧ IntKind.u64.wrap (4294967296 * (r : Int)) = (k1 : Int) ∧ IntKind.u64.wrap ((k1 : Int) + (d : Int)) = (k2 : Int)

theorem round_cases {u d y1 y0 q r : Nat} (hi : HIn u d y1 y0) (hr : r < H) (hv : HInv u d y1 y0 q r) :
    (∃ q' r', RoundA u d y1 y0 q r q' r' ∧ decide ((4294967296 : Int) ≤ (r' : Int)) = false ∧ Hid (q' < q ∧ r' < H ∧ HInv u d y1 y0 q' r')) ∨
    (∃ q' r', RoundA u d y1 y0 q r q' r' ∧ decide ((4294967296 : Int) ≤ (r' : Int)) = true ∧ Hid (q' = (u * H + d) / (y1 * H + y0))) ∨
    (∃ m k1 k2 q' r' : Nat, RoundB u d y1 y0 q r m k1 k2 ∧ k2 < m ∧ IntKind.u64.wrap ((q : Int) - 1) = (q' : Int) ∧ IntKind.u64.wrap ((r : Int) + (y1 : Int)) = (r' : Int) ∧ decide ((4294967296 : Int) ≤ (r' : Int)) = false ∧ Hid (q' < q ∧ r' < H ∧ HInv u d y1 y0 q' r')) ∨
    (∃ m k1 k2 q' r' : Nat, RoundB u d y1 y0 q r m k1 k2 ∧ k2 < m ∧ IntKind.u64.wrap ((q : Int) - 1) = (q' : Int) ∧ IntKind.u64.wrap ((r : Int) + (y1 : Int)) = (r' : Int) ∧ decide ((4294967296 : Int) ≤ (r' : Int)) = true ∧ Hid (q' = (u * H + d) / (y1 * H + y0))) ∨
    (∃ m k1 k2 : Nat, RoundB u d y1 y0 q r m k1 k2 ∧ m ≤ k2 ∧ Hid (q = (u * H + d) / (y1 * H + y0))) := by
  by_cases hq : H ≤ q
  · obtain ⟨q', r', a1, a2, a3⟩ := dec_facts hi hr hv (.inl hq)
    have T : decide ((4294967296 : Int) ≤ (q : Int)) = true := dec_true (by rw [H_eq] at hq; omega)
    rcases a3 with a3 | a3
    · exact .inl ⟨q', r', ⟨T, a1, a2⟩, a3⟩
    · exact .inr (.inl ⟨q', r', ⟨T, a1, a2⟩, a3⟩)
  · have T : decide ((4294967296 : Int) ≤ (q : Int)) = false := dec_false (by rw [H_eq] at hq; omega)
    obtain ⟨w1, w2, w3, _⟩ := round_facts (q := q) hi hr
    have R : RoundB u d y1 y0 q r (q * y0) (H * r) (H * r + d) := ⟨T, w1 (by omega), w2, w3⟩
    by_cases ht : H * r + d < q * y0
    · obtain ⟨q', r', a1, a2, a3⟩ := dec_facts hi hr hv (.inr ht)
      rcases a3 with a3 | a3
      · exact .inr (.inr (.inl ⟨_, _, _, q', r', R, ht, a1, a2, a3⟩))
      · exact .inr (.inr (.inr (.inl ⟨_, _, _, q', r', R, ht, a1, a2, a3⟩)))
    · exact .inr (.inr (.inr (.inr ⟨_, _, _, R, by omega, hv.test hi (by omega)⟩)))

set_option maxRecDepth 100000 in
set_option maxHeartbeats 2000000 in
theorem div64_walk (hi lo y s Y y1 y0 h2 u v d1 d0 qa za ra qb zb rb e1 e2 e3 u2 f1 f2 f3 f4 quo g1 rem : Nat) (w : World) (h0 : 0 < hi) (h1 : hi < y) (hs1 : s < 64)
    (HL : Hid (∀ W, Calls Tryd.prog 89 #[.int .u64 (y : Int)] W fun e w' => e = .returned (.int .i64 (s : Int)) ∧ W = w'))
    (r1 : IntKind.u64.wrap ((y : Int) * 2 ^ s) = (Y : Int)) (r2 : (Y : Int) / 4294967296 = (y1 : Int)) (r3 : bits BinOp.and IntKind.u64 (Y : Int) 4294967295 = (y0 : Int)) (r4 : IntKind.u64.wrap ((hi : Int) * 2 ^ s) = (h2 : Int))
    (r5 : bits BinOp.or IntKind.u64 (h2 : Int) ((lo : Int) / 2 ^ (64 - s)) = (u : Int)) (r6 : IntKind.u64.wrap ((lo : Int) * 2 ^ s) = (v : Int)) (r7 : (v : Int) / 4294967296 = (d1 : Int)) (r8 : bits BinOp.and IntKind.u64 (v : Int) 4294967295 = (d0 : Int))
    (r9 : IntKind.u64.wrap ((u : Int) / (y1 : Int)) = (qa : Int)) (r10 : IntKind.u64.wrap ((qa : Int) * (y1 : Int)) = (za : Int)) (r11 : IntKind.u64.wrap ((u : Int) - (za : Int)) = (ra : Int))
    (p1 : 0 < y1) (HI : Hid (HIn u d1 y1 y0)) (HS : Hid (HInv u d1 y1 y0 qa ra ∧ ra < H)) (HY : Hid (Y = y1 * H + y0))
    (x1 : IntKind.u64.wrap ((u : Int) * 4294967296) = (e1 : Int)) (x2 : IntKind.u64.wrap ((e1 : Int) + (d1 : Int)) = (e2 : Int)) (x3 : IntKind.u64.wrap ((((u * H + d1) / Y : Nat) : Int) * (Y : Int)) = (e3 : Int)) (x4 : IntKind.u64.wrap ((e2 : Int) - (e3 : Int)) = (u2 : Int))
    (x5 : IntKind.u64.wrap ((u2 : Int) / (y1 : Int)) = (qb : Int)) (x6 : IntKind.u64.wrap ((qb : Int) * (y1 : Int)) = (zb : Int)) (x7 : IntKind.u64.wrap ((u2 : Int) - (zb : Int)) = (rb : Int))
    (HI2 : Hid (HIn u2 d0 y1 y0)) (HS2 : Hid (HInv u2 d0 y1 y0 qb rb ∧ rb < H))
    (z1 : IntKind.u64.wrap ((((u * H + d1) / Y : Nat) : Int) * 4294967296) = (g1 : Int)) (z2 : IntKind.u64.wrap ((g1 : Int) + (((u2 * H + d0) / Y : Nat) : Int)) = (quo : Int))
    (z3 : IntKind.u64.wrap ((u2 : Int) * 4294967296) = (f1 : Int)) (z4 : IntKind.u64.wrap ((f1 : Int) + (d0 : Int)) = (f2 : Int)) (z5 : IntKind.u64.wrap ((((u2 * H + d0) / Y : Nat) : Int) * (Y : Int)) = (f3 : Int)) (z6 : IntKind.u64.wrap ((f2 : Int) - (f3 : Int)) = (f4 : Int))
    (z7 : (f4 : Int) / 2 ^ s = (rem : Int)) :
    Calls Tryd.prog 88 #[.int .u64 (hi : Int), .int .u64 (lo : Int), .int .u64 (y : Int)] w fun e w' => e = .returned (.tuple #[.int .u64 (quo : Int), .int .u64 (rem : Int)]) ∧ w = w' := by
  have t1 : ((y : Int) == 0) = false := by simp; omega
  have t2 : ((hi : Int) == 0) = false := by simp; omega
  obtain ⟨Q1, hQ1⟩ : ∃ Q, Q = (u * H + d1) / Y := ⟨_, rfl⟩
  obtain ⟨Q0, hQ0⟩ : ∃ Q, Q = (u2 * H + d0) / Y := ⟨_, rfl⟩
  rw [← hQ1] at x3 z1
  rw [← hQ0] at z2 z5
  have HQ1 := Lib.hid hQ1
  have HQ0 := Lib.hid hQ0
  clear hQ1 hQ0
  go_enter Tryd.func88, Tryd.ntmps88
  go_upto_block 0 with (go_at_call 89; refine (HL.out _).mono ?_; rintro e w' ⟨rfl, rfl⟩)
  go_cut [15] (fun q wx => q = .int .u64 (Q1 : Int) ∧ wx = w)
  case first =>
    clear r1 r2 r3 r4 r5 r6 r7 r8 r9 r10 r11 x1 x2 x3 x4 x5 x6 x7 z1 z2 z3 z4 z5 z6 z7
    go_wp2_with fail
    go_loop [15, 16] (fun a b => ∃ q r : Nat, a = .int .u64 q ∧ b = .int .u64 r ∧ r < H ∧ HInv u d1 y1 y0 q r) (fun a _ => (intOf a).toNat)
    case atStart => exact ⟨qa, ra, rfl, rfl, HS.out.2, HS.out.1⟩
    case round =>
      obtain ⟨q, r, rfl, rfl, hr, hi⟩ := hrel
      have HC := Lib.hid (round_cases HI.out hr hi)
      clear hi hr
      rcases HC.out with ⟨q', r', ⟨w1, w2, w3⟩, w4, HV⟩ | ⟨q', r', ⟨w1, w2, w3⟩, w4, HV⟩ | ⟨m, k1, k2, q', r', ⟨w1, w2, w3, w4⟩, w5, w6, w7, w8, HV⟩ | ⟨m, k1, k2, q', r', ⟨w1, w2, w3, w4⟩, w5, w6, w7, w8, HV⟩ | ⟨m, k1, k2, ⟨w1, w2, w3, w4⟩, w5, HV⟩
      · clear HC
        go_wp2_with fail
        go_round
        case rel => exact ⟨q', r', rfl, rfl, HV.out.2.1, HV.out.2.2⟩
        case measure => have := HV.out.1; simp [intOf]; omega
      · clear HC
        go_wp2_with fail
        go_meet
        exact ⟨by rw [HV.out, HQ1.out, HY.out], rfl⟩
      · clear HC
        go_wp2_with fail
        go_round
        case rel => exact ⟨q', r', rfl, rfl, HV.out.2.1, HV.out.2.2⟩
        case measure => have := HV.out.1; simp [intOf]; omega
      · clear HC
        go_wp2_with fail
        go_meet
        exact ⟨by rw [HV.out, HQ1.out, HY.out], rfl⟩
      · clear HC
        go_wp2_with fail
        go_meet
        exact ⟨by rw [HV.out, HQ1.out, HY.out], rfl⟩
  case rest =>
    obtain ⟨rfl, rfl⟩ := hcut
    clear r1 r2 r3 r4 r5 r6 r7 r8 r9 r10 r11
    go_upto_block 2 with fail
    go_cut [18] (fun q wx => q = .int .u64 (Q0 : Int) ∧ wx = wc)
    case first =>
      clear x1 x2 x3 x4 x5 x6 x7 z1 z2 z3 z4 z5 z6 z7
      go_wp2_with fail
      go_loop [18, 16] (fun a b => ∃ q r : Nat, a = .int .u64 q ∧ b = .int .u64 r ∧ r < H ∧ HInv u2 d0 y1 y0 q r) (fun a _ => (intOf a).toNat)
      case atStart => exact ⟨qb, rb, rfl, rfl, HS2.out.2, HS2.out.1⟩
      case round =>
        obtain ⟨q, r, rfl, rfl, hr, hi⟩ := hrel
        have HC := Lib.hid (round_cases HI2.out hr hi)
        clear hi hr
        rcases HC.out with ⟨q', r', ⟨w1, w2, w3⟩, w4, HV⟩ | ⟨q', r', ⟨w1, w2, w3⟩, w4, HV⟩ | ⟨m, k1, k2, q', r', ⟨w1, w2, w3, w4⟩, w5, w6, w7, w8, HV⟩ | ⟨m, k1, k2, q', r', ⟨w1, w2, w3, w4⟩, w5, w6, w7, w8, HV⟩ | ⟨m, k1, k2, ⟨w1, w2, w3, w4⟩, w5, HV⟩
        · clear HC
          go_wp2_with fail
          go_round
          case rel => exact ⟨q', r', rfl, rfl, HV.out.2.1, HV.out.2.2⟩
          case measure => have := HV.out.1; simp [intOf]; omega
        · clear HC
          go_wp2_with fail
          go_meet
          exact ⟨by rw [HV.out, HQ0.out, HY.out], rfl⟩
        · clear HC
          go_wp2_with fail
          go_round
          case rel => exact ⟨q', r', rfl, rfl, HV.out.2.1, HV.out.2.2⟩
          case measure => have := HV.out.1; simp [intOf]; omega
        · clear HC
          go_wp2_with fail
          go_meet
          exact ⟨by rw [HV.out, HQ0.out, HY.out], rfl⟩
        · clear HC
          go_wp2_with fail
          go_meet
          exact ⟨by rw [HV.out, HQ0.out, HY.out], rfl⟩
    case rest =>
      obtain ⟨rfl, rfl⟩ := hcut
      clear x1 x2 x3 x4 x5 x6 x7
      go_wp2_with fail
      go_ret2
      exact ⟨rfl, rfl⟩

theorem cast_pow (a s : Nat) : ((a * 2 ^ s : Nat) : Int) = (a : Int) * 2 ^ s := by simp
theorem cast_div (a s : Nat) : ((a / 2 ^ s : Nat) : Int) = (a : Int) / 2 ^ s := by simp
theorem bitLen_bounds {y : Nat} (h0 : y ≠ 0) (h : y < B) : 1 ≤ Lib.bitLen y ∧ Lib.bitLen y ≤ 64 ∧ 2 ^ (Lib.bitLen y - 1) ≤ y ∧ y < 2 ^ Lib.bitLen y := by
  obtain ⟨a, b, c⟩ := Lib.bitLenAux_bounds 64 y h h0
  exact ⟨a, Lib.bitLen_le y 64 (Nat.le_refl _) h, b, c⟩

/-- Moved up till its highest bit is set. -/
theorem top_set {y : Nat} (h0 : y ≠ 0) (h : y < B) : H ≤ 2 * (y * 2 ^ (64 - Lib.bitLen y) / H) ∧ y * 2 ^ (64 - Lib.bitLen y) < B := by
  obtain ⟨a, b, c, d⟩ := bitLen_bounds h0 h
  have e1 : 2 ^ (Lib.bitLen y - 1) * 2 ^ (64 - Lib.bitLen y) ≤ y * 2 ^ (64 - Lib.bitLen y) := Nat.mul_le_mul_right _ c
  have e2 : y * 2 ^ (64 - Lib.bitLen y) < 2 ^ Lib.bitLen y * 2 ^ (64 - Lib.bitLen y) := Nat.mul_lt_mul_of_pos_right d (Nat.two_pow_pos _)
  rw [← Nat.pow_add, show Lib.bitLen y - 1 + (64 - Lib.bitLen y) = 63 from by omega] at e1
  rw [← Nat.pow_add, show Lib.bitLen y + (64 - Lib.bitLen y) = 64 from by omega] at e2
  refine ⟨?_, e2⟩
  rw [H_eq]
  omega

theorem start_facts {u y1 : Nat} (hu : u < B) (hp : 0 < y1) : IntKind.u64.wrap ((u : Int) / (y1 : Int)) = ((u / y1 : Nat) : Int) ∧ IntKind.u64.wrap (((u / y1 : Nat) : Int) * (y1 : Int)) = ((u / y1 * y1 : Nat) : Int) ∧ IntKind.u64.wrap ((u : Int) - ((u / y1 * y1 : Nat) : Int)) = ((u % y1 : Nat) : Int) := by
  have h1 := Nat.div_add_mod u y1
  have h2 : u / y1 ≤ u := Nat.div_le_self _ _
  have h3 : u % y1 < y1 := Nat.mod_lt _ hp
  rw [Nat.mul_comm] at h1
  refine ⟨wr (by simp) (by omega), wr (by simp) (by omega), wr (by omega) (by omega)⟩

/-- u H + d - q Y, wrapped. -/
theorem rest_facts {u d q Y t : Nat} (h : u * H + d = q * Y + t) (ht : t < B) :
    ∃ e1 e2 e3 : Nat, IntKind.u64.wrap ((u : Int) * 4294967296) = (e1 : Int) ∧ IntKind.u64.wrap ((e1 : Int) + (d : Int)) = (e2 : Int) ∧ IntKind.u64.wrap ((q : Int) * (Y : Int)) = (e3 : Int) ∧ IntKind.u64.wrap ((e2 : Int) - (e3 : Int)) = (t : Int) := by
  obtain ⟨e1, a1, _⟩ := wrm ((u : Int) * 4294967296)
  obtain ⟨e2, a2, _⟩ := wrm ((e1 : Int) + (d : Int))
  obtain ⟨e3, a3, _⟩ := wrm ((q : Int) * (Y : Int))
  refine ⟨e1, e2, e3, a1, a2, a3, ?_⟩
  have := sub_wrap (x := (u : Int) * 4294967296) (d := (d : Int)) (p := (q : Int) * (Y : Int)) (t := t) (by
    have e : ((u * H + d : Nat) : Int) = ((q * Y + t : Nat) : Int) := by rw [h]
    rw [H_eq] at e
    simpa using e) ht
  rw [a1, a2, a3] at this
  exact this

theorem div64_pos (hi lo y : Nat) (w : World) (h0 : 0 < hi) (h1 : hi < y) (hlo : lo < B) (hy : y < B) :
    Calls Tryd.prog 88 #[.int .u64 (hi : Int), .int .u64 (lo : Int), .int .u64 (y : Int)] w fun e w' => e = .returned (.tuple #[.int .u64 (((hi * B + lo) / y : Nat) : Int), .int .u64 (((hi * B + lo) % y : Nat) : Int)]) ∧ w = w' := by
  have hy0 : y ≠ 0 := by omega
  obtain ⟨b1, b2, b3, b4⟩ := bitLen_bounds hy0 hy
  obtain ⟨t1, t2⟩ := top_set hy0 hy
  obtain ⟨s, hs⟩ : ∃ s, s = 64 - Lib.bitLen y := ⟨_, rfl⟩
  rw [← hs] at t1 t2
  have hs64 : s < 64 := by omega
  obtain ⟨m1, m2, m3⟩ := moved (s := s) (by omega) h1 hlo t2
  generalize hY : y * 2 ^ s = Y at *
  generalize hu : hi * 2 ^ s + lo / 2 ^ (64 - s) = u at *
  generalize hv : lo * 2 ^ s % B = v at *
  have hvB : v < B := by rw [← hv]; exact Nat.mod_lt _ B_pos
  have hYe : Y = Y / H * H + Y % H := by rw [Nat.mul_comm]; exact (Nat.div_add_mod Y H).symm
  have hy1 : Y / H < H := by rw [Nat.div_lt_iff_lt_mul H_pos, HH]; exact t2
  have hI : HIn u (v / H) (Y / H) (Y % H) := ⟨by omega, by rw [Nat.div_lt_iff_lt_mul H_pos, HH]; exact hvB, Nat.mod_lt _ H_pos, hy1, t1⟩
  have hp := hI.pos
  have hYp : 0 < Y := by omega
  have hmod := Nat.mod_lt (u * H + v / H) hYp
  have hI2 : HIn ((u * H + v / H) % Y) (v % H) (Y / H) (Y % H) := ⟨by omega, Nat.mod_lt _ H_pos, Nat.mod_lt _ H_pos, hy1, t1⟩
  obtain ⟨a1, a2, a3⟩ := start_facts (u := u) (y1 := Y / H) (by omega) hp
  obtain ⟨c1, c2, c3⟩ := start_facts (u := (u * H + v / H) % Y) (y1 := Y / H) (by omega) hp
  obtain ⟨e1, e2, e3, x1, x2, x3, x4⟩ := rest_facts (u := u) (d := v / H) (q := (u * H + v / H) / Y) (Y := Y) (t := (u * H + v / H) % Y) (Nat.div_add_mod' _ _).symm (by omega)
  have hmod2 := Nat.mod_lt ((u * H + v / H) % Y * H + v % H) hYp
  obtain ⟨f1, f2, f3, z3, z4, z5, z6⟩ := rest_facts (u := (u * H + v / H) % Y) (d := v % H) (q := ((u * H + v / H) % Y * H + v % H) / Y) (Y := Y) (t := ((u * H + v / H) % Y * H + v % H) % Y) (Nat.div_add_mod' _ _).symm (by omega)
  obtain ⟨q1, q2⟩ := halves (N := (hi * B + lo) * 2 ^ s) (Y := Y) (u := u) (d1 := v / H) (d0 := v % H) (by rw [m1, Nat.mul_comm (v / H)]; rw [Nat.div_add_mod]) rfl rfl rfl rfl hYp
  have hp2 : 0 < 2 ^ s := Nat.two_pow_pos s
  rw [← hY] at q1 q2
  obtain ⟨k1, k2⟩ := scaled (n := hi * B + lo) (y := y) hp2
  rw [k1] at q1
  rw [q2] at k2
  rw [hY] at q1 k2
  have hqB : (hi * B + lo) / y < B := by
    rw [Nat.div_lt_iff_lt_mul (by omega)]
    have : (hi + 1) * B ≤ y * B := Nat.mul_le_mul_right _ h1
    rw [Nat.add_mul, Nat.one_mul] at this
    rw [Nat.mul_comm B]
    omega
  have e5 : IntKind.u64.wrap ((((u * H + v / H) / Y : Nat) : Int) * 4294967296) = (((u * H + v / H) / Y * H : Nat) : Int) := wr (by rw [H_eq]; simp) (Nat.lt_of_le_of_lt (Nat.le_add_right _ _) (by rw [← q1]; exact hqB))
  have hib : hi * 2 ^ s < B := Nat.lt_of_le_of_lt (by rw [← hu]; exact Nat.le_add_right _ _) (Nat.lt_trans m2 t2)
  have hlb : lo / 2 ^ (64 - s) < B := Nat.lt_of_le_of_lt (Nat.div_le_self _ _) hlo
  have horr : bits BinOp.or IntKind.u64 ((hi * 2 ^ s : Nat) : Int) ((lo : Int) / 2 ^ (64 - s)) = (u : Int) := by
    rw [← cast_div, bits_or_u64_nat _ _ hib hlb, Nat.mul_comm hi, ← Nat.two_pow_add_eq_or_of_lt m3, Nat.mul_comm, hu]
  have r6 : IntKind.u64.wrap ((lo : Int) * 2 ^ s) = (v : Int) := by
    rw [← cast_pow, IntKind.wrap_u64, ← hv, B_eq]; omega
  rw [← k2, q1]
  refine div64_walk hi lo y s Y (Y / H) (Y % H) (hi * 2 ^ s) u v (v / H) (v % H) (u / (Y / H)) _ _ _ _ _ e1 e2 e3 _ f1 f2 f3 _ _ _ _ w h0 h1 hs64 ?_ (wr (by rw [← hY, cast_pow]) t2) (by rw [H_eq]; omega) (Mul64.maskN Y t2) (wr (by rw [cast_pow]) hib) horr r6 (by rw [H_eq]; omega) (Mul64.maskN v hvB) a1 a2 a3 hp hI
    (HInv.start hI) hYe x1 x2 x3 x4 c1 c2 c3 hI2 (HInv.start hI2) e5 (wr (by omega) (by rw [← q1]; exact hqB)) z3 z4 z5 z6 (cast_div _ _).symm
  exact fun W => (lead64 y hy W).mono fun e w' ⟨he, hw⟩ => ⟨by rw [he]; exact ret_int (by omega), hw⟩

/-- A division that may be a quiet statement of two parts. -/
theorem div64_zero (lo y : Nat) (w : World) (h1 : 0 < y) (hlo : lo < B) :
    Calls Tryd.prog 88 #[.int .u64 (0 : Int), .int .u64 (lo : Int), .int .u64 (y : Int)] w fun e w' => e = .returned (.tuple #[.int .u64 ((lo / y : Nat) : Int), .int .u64 ((lo % y : Nat) : Int)]) ∧ ∃ n, w' = w.drewN n := by
  have t1 : ((y : Int) == 0) = false := by simp; omega
  have r1 : IntKind.u64.wrap ((lo : Int) / (y : Int)) = ((lo / y : Nat) : Int) := wr (by simp) (Nat.lt_of_le_of_lt (Nat.div_le_self _ _) hlo)
  have r2 : (lo : Int) % (y : Int) = ((lo % y : Nat) : Int) := by simp
  generalize lo / y = q at *
  generalize lo % y = r at *
  have HR := Lib.hid r2
  clear r2
  go_enter Tryd.func88, Tryd.ntmps88
  go_wp2_with fail
  go_quiet (fail)
  go_wp2_with fail
  go_ret2
  refine ⟨?_, _, rfl⟩
  show Ending.returned (.tuple #[.int .u64 (q : Int), .int .u64 ((lo : Int) % (y : Int))]) = _
  rw [HR.out]

/-- Div64, whenever it does not panic. -/
theorem div64 (hi lo y : Nat) (w : World) (h1 : hi < y) (hlo : lo < B) (hy : y < B) :
    Calls Tryd.prog 88 #[.int .u64 (hi : Int), .int .u64 (lo : Int), .int .u64 (y : Int)] w fun e w' => e = .returned (.tuple #[.int .u64 (((hi * B + lo) / y : Nat) : Int), .int .u64 (((hi * B + lo) % y : Nat) : Int)]) ∧ ∃ n, w' = w.drewN n := by
  rcases Nat.eq_zero_or_pos hi with rfl | h0
  · have := div64_zero lo y w (by omega) hlo
    rw [Nat.zero_mul, Nat.zero_add]
    exact this
  · exact (div64_pos hi lo y w h0 h1 hlo hy).mono fun e w' ⟨he, hw⟩ => ⟨he, 0, hw.symm⟩
end Go.Proofs.YtjlfcnkndndgaaaDoor
