/-
  Contract of limbs: digit: one digit of a long division.
-/
import Derived.Test.YtjlfcnkndndgaaaDoorLongA
import Derived.Test.YtjlfcnkndndgaaaDoorDiv
namespace Go.Proofs.YtjlfcnkndndgaaaDoor
open Go.RowKit Tw

/-- A call that only draws, inside a region that draws. -/
theorem quiet_draws {P : Program} {f : FuncId} {args : Array Value} {w : World} {n : Nat} {v : Value} (h : Calls P f args (w.drewN n) fun e w' => e = .returned v ∧ ∃ k, w' = (w.drewN n).drewN k) :
    Calls P f args (w.drewN n) fun e w'' => e = .returned v ∧ ∃ m, w'' = w.drewN m := h.mono fun _ _ ⟨he, k, hm⟩ => ⟨he, n + k, by rw [hm, World.drewN_drewN]⟩
theorem quiet_draws2 {P : Program} {f : FuncId} {args : Array Value} {w : World} {a n : Nat} {v : Value} (h : Calls P f args (w.drewN (a + n)) fun e w' => e = .returned v ∧ ∃ k, w' = (w.drewN (a + n)).drewN k) :
    Calls P f args (w.drewN (a + n)) fun e w'' => e = .returned v ∧ ∃ m, w'' = w.drewN (a + m) := h.mono fun _ _ ⟨he, k, hm⟩ => ⟨he, n + k, by rw [hm, World.drewN_drewN, Nat.add_assoc]⟩

theorem wrq {z : Int} {n : Nat} (h : z = (n : Int)) (hn : n < B) : IntKind.u64.wrap z = (n : Int) := wr h hn

/-- The guess while it is made less. -/
def GLoop (X vs : List Nat) (n G r : Nat) : Prop := G * dg vs (n - 1) + r = dg X n * B + dg X (n - 1) ∧ val X / val vs ≤ G ∧ G < B ∧ r < B
/-- The guess, done. -/
def GDone (X vs : List Nat) (G : Nat) : Prop := val X / val vs ≤ G ∧ G < B

theorem GLoop.cases {X vs : List Nat} {n G r : Nat} (h : GLoop X vs n G r) (hi : GuessIn X vs n) : ∃ h0 l0 : Nat,
    Hid (∀ W, Calls Tryd.prog 70 #[.int .u64 (G : Int), .int .u64 ((dg vs (n - 2) : Nat) : Int)] W fun e w' => e = .returned (.tuple #[.int .u64 (h0 : Int), .int .u64 (l0 : Int)]) ∧ W = w') ∧
    (h0 < r ∨ (((h0 : Int) == (r : Int)) = true ∧ r ≤ h0 ∧ l0 ≤ dg X (n - 2)) ∨
      (((((h0 : Int) == (r : Int)) = true ∧ r ≤ h0 ∧ dg X (n - 2) < l0) ∨ (((h0 : Int) == (r : Int)) = false ∧ r ≤ h0)) ∧ ∃ G' r' : Nat, IntKind.u64.wrap ((G : Int) - 1) = (G' : Int) ∧ IntKind.u64.wrap ((r : Int) + ((dg vs (n - 1) : Nat) : Int)) = (r' : Int) ∧
        ((r' < dg vs (n - 1) ∧ Hid (GDone X vs G')) ∨ (dg vs (n - 1) ≤ r' ∧ Hid (G' < G ∧ GLoop X vs n G' r'))))) := by
  obtain ⟨he, hq, hG, hr⟩ := h
  have hnB := dg_lt hi.okV (n - 2)
  have htB := dg_lt hi.okV (n - 1)
  have hxB := dg_lt hi.okX (n - 2)
  have hdm := Nat.div_add_mod (G * dg vs (n - 2)) B
  have hml := Nat.mod_lt (G * dg vs (n - 2)) B_pos
  refine ⟨G * dg vs (n - 2) / B, G * dg vs (n - 2) % B, fun W => mul64 G _ hG hnB W, ?_⟩
  generalize G * dg vs (n - 2) / B = h0 at *
  generalize G * dg vs (n - 2) % B = l0 at *
  by_cases c1 : h0 < r
  · exact .inl c1
  by_cases c2 : h0 = r ∧ l0 ≤ dg X (n - 2)
  · exact .inr (.inl ⟨by simp [c2.1], by omega, c2.2⟩)
  refine .inr (.inr ⟨?_, ?_⟩)
  · by_cases c3 : h0 = r
    · exact .inl ⟨by simp [c3], by omega, by omega⟩
    · exact .inr ⟨by simp; omega, by omega⟩
  · have hgt : r * B + dg X (n - 2) < G * dg vs (n - 2) := by
      rw [← hdm, Nat.mul_comm B h0]
      by_cases c3 : h0 = r
      · subst c3; omega
      · have : (r + 1) * B ≤ h0 * B := Nat.mul_le_mul_right _ (by omega)
        rw [Nat.add_mul, Nat.one_mul] at this
        omega
    have hlt := hi.two_digits he hgt
    have hG1 : 1 ≤ G := Nat.lt_of_le_of_lt (Nat.zero_le _) hlt
    have hqG : val X / val vs ≤ G - 1 := Nat.le_sub_one_of_lt hlt
    have hr' : IntKind.u64.wrap ((r : Int) + ((dg vs (n - 1) : Nat) : Int)) = (((r + dg vs (n - 1)) % B : Nat) : Int) := by
      rw [IntKind.wrap_u64, B_eq]; omega
    refine ⟨G - 1, (r + dg vs (n - 1)) % B, wr (by omega) (by omega), hr', ?_⟩
    by_cases c4 : r + dg vs (n - 1) < B
    · refine .inr ⟨by rw [Nat.mod_eq_of_lt c4]; omega, by omega, ?_, hqG, by omega, Nat.mod_lt _ B_pos⟩
      rw [Nat.mod_eq_of_lt c4, ← he]
      obtain ⟨p, rfl⟩ : ∃ p, G = p + 1 := ⟨G - 1, by omega⟩
      rw [Nat.add_sub_cancel, Nat.add_mul, Nat.one_mul]
      omega
    · refine .inl ⟨?_, hqG, by omega⟩
      rw [show r + dg vs (n - 1) = (r + dg vs (n - 1) - B) + B from by omega, Nat.add_mod_right, Nat.mod_eq_of_lt (by omega)]
      omega

set_option maxRecDepth 100000 in
set_option maxHeartbeats 2000000 in
theorem digit_any (g j n cap : Nat) (P X S : List Nat) (A' : Option Addr) (c' : Nat) (vs : List Nat) (w : World) (hr : Row w g (P ++ (X ++ S))) (hj : Hid (P.length = j)) (hG : Hid (GuessIn X vs n)) (h' : Nums w A' c' vs)
    (hA : Off A' vs g) (hs : n ≤ 4000000) (hn : 2 ≤ n) :
    Calls Tryd.prog 90 #[.slice (some ⟨g, j, none⟩) (n + 1) cap, .slice A' n c'] w fun e w' => e = .returned (.int .u64 ((val X / val vs : Nat) : Int)) ∧ ∃ Y, Row w' g (P ++ (Y ++ S)) ∧ Ok Y ∧ Y.length = n + 1 ∧ val Y = val X % val vs ∧ w.grownBy w' (some g) := by
  have hlX := hG.out.lX
  have hlV := hG.out.lV
  obtain ⟨b', off', rfl, hcy⟩ := h'.cells (by omega)
  have cv1 := hcy (n - 1) (by omega)
  have cv2 := hcy (n - 2) (by omega)
  have HJ := hj.out
  have cx0 := hr.cell (k := P.length + n) (by simp; omega)
  have cx1 := hr.cell (k := P.length + (n - 1)) (by simp; omega)
  have cx2 := hr.cell (k := P.length + (n - 2)) (by simp; omega)
  rw [dg_mid P X S (by omega), HJ] at cx0 cx1 cx2
  have i1 : (0 : Int) ≤ (n : Int) - 1 := by omega
  have i2 : (0 : Int) ≤ (n : Int) - 2 := by omega
  have i3 : (n : Int) - 1 < n := by omega
  have i4 : (n : Int) - 2 < n := by omega
  have i5 : (n : Int) - 1 < ((n + 1 : Nat) : Int) := by omega
  have HLX := Lib.hid hlX
  have HLV := Lib.hid hlV
  have HA := Lib.hid hA
  clear hlX hlV hcy HJ hA
  go_enter Tryd.func90, Tryd.ntmps90
  go_wp2_with fail
  go_quiet (fail)
  go_upto_if 30 with fail
  obtain ⟨M, hM, hM2⟩ : ∃ M : Nat, (18446744073709551615 : Int) = (M : Int) ∧ M = B - 1 := ⟨18446744073709551615, rfl, rfl⟩
  rw [hM]
  have HM := Lib.hid hM2
  clear hM hM2
  go_cut [8] (fun gv wx => ∃ G k : Nat, gv = .int .u64 G ∧ wx = w.drewN k ∧ GDone X vs G)
  case first =>
    by_cases hlt : dg X n < dg vs (n - 1)
    · rw [dec_true hlt]
      have hs0 := hG.out.start
      have hdv := div64 (dg X n) (dg X (n - 1)) (dg vs (n - 1))
      have hx1 := dg_lt hG.out.okX (n - 1)
      have ht1 := dg_lt hG.out.okV (n - 1)
      have hdm := Nat.div_add_mod (dg X n * B + dg X (n - 1)) (dg vs (n - 1))
      have hml := Nat.mod_lt (dg X n * B + dg X (n - 1)) hG.out.top
      have hqB : (dg X n * B + dg X (n - 1)) / dg vs (n - 1) < B := by
        rw [Nat.div_lt_iff_lt_mul hG.out.top]
        have : (dg X n + 1) * B ≤ dg vs (n - 1) * B := Nat.mul_le_mul_right _ hlt
        rw [Nat.add_mul, Nat.one_mul] at this
        rw [Nat.mul_comm B]; omega
      have HDV := Lib.hid (fun W => hdv W hlt hx1 ht1)
      have HS : Hid (GLoop X vs n ((dg X n * B + dg X (n - 1)) / dg vs (n - 1)) ((dg X n * B + dg X (n - 1)) % dg vs (n - 1))) := ⟨by rw [Nat.mul_comm]; exact hdm, hs0, hqB, by omega⟩
      generalize (dg X n * B + dg X (n - 1)) / dg vs (n - 1) = G0 at HDV HS
      generalize (dg X n * B + dg X (n - 1)) % dg vs (n - 1) = r0 at HDV HS
      clear hs0 hdv hdm hml hqB hx1 ht1 hlt
      go_wp2_with fail
      go_quiet ((go_at_call 88; first | exact quiet_draws (HDV.out _) | exact quiet_draws2 (HDV.out _)))
      go_wp2_with fail
      rw [World.drewN_drewN]
      go_loop [8, 9] (fun a b => ∃ G r : Nat, a = .int .u64 G ∧ b = .int .u64 r ∧ GLoop X vs n G r) (fun a _ => (intOf a).toNat)
      case atStart => exact ⟨G0, r0, rfl, rfl, HS.out⟩
      case round =>
        obtain ⟨G, r, rfl, rfl, hgl⟩ := hrel
        have HGL := Lib.hid hgl
        obtain ⟨h0, l0, F1, hc⟩ := hgl.cases hG.out
        clear hgl
        rcases hc with hc | ⟨c1, c2, c3⟩ | ⟨hc, G', r', f1, f2, hd⟩
        · go_wp2_with fail
          refine (F1.out _).mono ?_; rintro e w' ⟨rfl, rfl⟩
          go_wp2_with fail
          go_meet
          exact ⟨G, _, rfl, rfl, HGL.out.2.1, HGL.out.2.2.1⟩
        · go_wp2_with fail
          refine (F1.out _).mono ?_; rintro e w' ⟨rfl, rfl⟩
          go_wp2_with fail
          go_meet
          exact ⟨G, _, rfl, rfl, HGL.out.2.1, HGL.out.2.2.1⟩
        · rcases hd with ⟨d1, d2⟩ | ⟨d1, d2⟩
          · rcases hc with ⟨c1, c2, c3⟩ | ⟨c1, c2⟩
            all_goals
              go_wp2_with fail
              refine (F1.out _).mono ?_; rintro e w' ⟨rfl, rfl⟩
              go_wp2_with fail
              go_meet
              exact ⟨G', _, rfl, rfl, d2.out⟩
          · rcases hc with ⟨c1, c2, c3⟩ | ⟨c1, c2⟩
            all_goals
              go_wp2_with fail
              refine (F1.out _).mono ?_; rintro e w' ⟨rfl, rfl⟩
              go_wp2_with fail
              go_round
              case rel => exact ⟨G', r', rfl, rfl, d2.out.2⟩
              case measure => have := d2.out.1; simp [intOf]; omega
    · rw [dec_false hlt]
      clear hlt
      go_wp2_with fail
      go_meet
      exact ⟨M, _, rfl, rfl, by rw [HM.out]; exact Nat.le_sub_one_of_lt hG.out.q_lt, by rw [HM.out]; have := B_pos; omega⟩
  case rest =>
    obtain ⟨G, k, rfl, rfl, hGd⟩ := hcut
    have HGd := Lib.hid hGd
    clear hGd
    clear cv1 cv2 cx0 cx1 cx2
    go_wp2_with fail
    refine (takeOff_any g j n G cap P X S _ c' vs (w.drewN k) (hr.drewN k) hG.out.okX HLX hj (h'.drewN k) HLV HA.out HGd.out.2 hs (by omega)).mono ?_
    rintro e w1 ⟨Y, bw, rfl, hrY, hoY, hlY, hbw, hvY, hg1⟩
    go_wp2_with fail
    have HVY := Lib.hid hvY
    have HLY := Lib.hid hlY
    clear hvY hlY
    go_loopw [8, 12] (fun gv bv wr => ∃ G b : Nat, gv = .int .u64 G ∧ bv = .int .u64 b ∧ b ≤ 1 ∧ ∃ Y, Row wr g (P ++ (Y ++ S)) ∧ Ok Y ∧ Y.length = n + 1 ∧ val Y + G * val vs = val X + B ^ (n + 1) * b ∧ GDone X vs G ∧ w.grownBy wr (some g)) (fun gv _ _ => (intOf gv).toNat)
    case atStart => exact ⟨G, bw, rfl, rfl, hbw, Y, hrY, hoY, HLY.out, HVY.out, HGd.out, grown_trans (grown_drewN (World.grownBy.refl _ _) k) hg1⟩
    case round =>
      obtain ⟨G2, b, rfl, rfl, hb, Z, hrZ, hoZ, hlZ, hvZ, hGZ, hgZ⟩ := hrel
      have HVZ := Lib.hid (And.intro hvZ (And.intro hGZ hlZ))
      clear hvZ hGZ hlZ
      rcases Nat.eq_zero_or_pos b with rfl | hbp
      · go_wp2_with fail
        go_ret
        obtain ⟨e1, e2, e3⟩ := HVZ.out
        rw [Nat.mul_zero, Nat.add_zero] at e1
        have hvp := hG.out.vpos
        have hq : G2 ≤ val X / val vs := (Nat.le_div_iff_mul_le hvp).2 (by omega)
        have hqe : G2 = val X / val vs := Nat.le_antisymm hq e2.1
        have hdm := Nat.div_add_mod (val X) (val vs)
        rw [← hqe, Nat.mul_comm] at hdm
        exact ⟨by rw [← hqe]; rfl, Z, hrZ, hoZ, e3, by omega, hgZ⟩
      · obtain rfl : b = 1 := by omega
        have hvp := hG.out.vpos
        have hlt2 : val X / val vs < G2 := by
          obtain ⟨e1, e2, e3⟩ := HVZ.out
          rw [Nat.div_lt_iff_lt_mul hvp]
          have := val_lt hoZ
          rw [e3] at this
          omega
        obtain ⟨G3, rfl⟩ : ∃ G3, G2 = G3 + 1 := ⟨G2 - 1, by have := Nat.lt_of_le_of_lt (Nat.zero_le _) hlt2; omega⟩
        have w4 : IntKind.u64.wrap (G3 : Int) = (G3 : Int) := wrq rfl (by have := HVZ.out.2.1.2; omega)
        have HLT := Lib.hid hlt2
        clear hlt2 hvp
        go_wp2_with fail
        refine (giveBack_any g j n cap P Z S _ c' vs wr hrZ hoZ HVZ.out.2.2 hj (h'.grownOff hgZ HA.out) HLV HA.out hs (by omega)).mono ?_
        rintro e w2 ⟨U, cy, rfl, hrU, hoU, hlU, hcy, hvU, hg2⟩
        have w5 : IntKind.u64.wrap (1 - (cy : Int)) = ((1 - cy : Nat) : Int) := wrq (by omega) (by have := B_two; omega)
        have HVU := Lib.hid hvU
        clear hvU
        go_wp2_with fail
        go_roundw
        case rel =>
          obtain ⟨e1, e2, e3⟩ := HVZ.out
          have e4 := HVU.out
          refine ⟨G3, 1 - cy, rfl, rfl, by omega, U, hrU, hoU, hlU, ?_, ⟨Nat.le_of_lt_succ HLT.out, by have := e2.2; omega⟩, grown_trans hgZ hg2⟩
          rw [Nat.add_mul, Nat.one_mul, Nat.mul_one] at e1
          rcases Nat.eq_zero_or_pos cy with rfl | hc
          · rw [Nat.mul_zero] at e4
            rw [Nat.sub_zero, Nat.mul_one]; omega
          · obtain rfl : cy = 1 := by omega
            rw [Nat.mul_one] at e4
            rw [Nat.sub_self, Nat.mul_zero]; omega
        case measure => simp [intOf]
end Go.Proofs.YtjlfcnkndndgaaaDoor
