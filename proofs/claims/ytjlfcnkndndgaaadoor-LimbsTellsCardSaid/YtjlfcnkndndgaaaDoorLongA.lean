/-
  Contracts of limbs: takeOff, giveBack.
-/
import Derived.Test.YtjlfcnkndndgaaaDoorMul
import Derived.Test.YtjlfcnkndndgaaaDoorLongNum
import Derived.Test.YtjlfcnkndndgaaaDoorLowD
namespace Go.Proofs.YtjlfcnkndndgaaaDoor
open Go.RowKit Tw

/-- One place of takeOff: what is reckoned, under names. -/
theorem off_facts {v t cy x bw : Nat} (hv : v < B) (ht : t < B) (hc : cy < B) (hx : x < B) (hb : bw ≤ 1) : ∃ h0 l0 l1 c1 h1 x' bw' : Nat,
    (∀ W, Calls Tryd.prog 70 #[.int .u64 (v : Int), .int .u64 (t : Int)] W fun e w' => e = .returned (.tuple #[.int .u64 (h0 : Int), .int .u64 (l0 : Int)]) ∧ W = w') ∧
    (∀ W, (callFunc 71 #[.int .u64 (l0 : Int), .int .u64 (cy : Int), .int .u64 0]).run Tryd.prog W = .ok (.value (.tuple #[.int .u64 (l1 : Int), .int .u64 (c1 : Int)])) W) ∧ IntKind.u64.wrap ((h0 : Int) + (c1 : Int)) = (h1 : Int) ∧
    (∀ W, (callFunc 92 #[.int .u64 (x : Int), .int .u64 (l1 : Int), .int .u64 (bw : Int)]).run Tryd.prog W = .ok (.value (.tuple #[.int .u64 (x' : Int), .int .u64 (bw' : Int)])) W) ∧
    h1 < B ∧ x' < B ∧ bw' ≤ 1 ∧ l1 + B * h1 = v * t + cy ∧ x' + l1 + bw = x + B * bw' := by
  obtain ⟨e1, e2⟩ := times_digit hv ht hc
  exact ⟨_, _, _, _, _, _, _, fun W => mul64 v t hv ht W, fun W => add64z _ _ W, wrN e2, fun W => sub64 x _ bw hb W, e2, Nat.mod_lt _ B_pos, by split <;> omega, e1, sub_digit hx (Nat.mod_lt _ B_pos) hb⟩

/-- What takeOff and giveBack leave in the window. -/
def Window (w : World) (g : Nat) (P S : List Nat) (n : Nat) (R : List Nat → Nat → Prop) (e : Ending) (w' : World) : Prop :=
  ∃ Y c, e = .returned (.int .u64 ((c : Nat) : Int)) ∧ Row w' g (P ++ (Y ++ S)) ∧ Ok Y ∧ Y.length = n + 1 ∧ c ≤ 1 ∧ R Y c ∧ w.grownBy w' (some g)

set_option maxRecDepth 100000 in
set_option maxHeartbeats 1000000 in
theorem takeOff_any (g j n t cap : Nat) (P X S : List Nat) (A' : Option Addr) (c' : Nat) (vs : List Nat) (w : World) (hr : Row w g (P ++ (X ++ S))) (ho : Ok X) (hX : Hid (X.length = n + 1)) (hj : Hid (P.length = j)) (h' : Nums w A' c' vs) (hv : Hid (vs.length = n))
    (hA : Off A' vs g) (ht : t < B) (hs : n ≤ 4000000) (hn : 0 < n) :
    Calls Tryd.prog 96 #[.slice (some ⟨g, j, none⟩) (n + 1) cap, .slice A' n c', .int .u64 (t : Int)] w (Window w g P S n fun Y bw => val Y + t * val vs = val X + B ^ (n + 1) * bw) := by
  obtain ⟨b', off', rfl, hcy⟩ := h'.cells (by rw [hv.out]; exact hn)
  have HY := Lib.hid hcy
  have hbne : b' ≠ g := by have := hA (by rw [hv.out]; exact hn) _ rfl; simpa using this
  have HT := Lib.hid ht
  have HA := Lib.hid hA
  clear hcy hA ht
  have cellX : Hid (∀ W Y i, Row W g (P ++ (Y ++ S)) → Y.length = X.length → i < n + 1 → W.cell? ⟨g, j + i, none⟩ = some (.int .u64 (dg Y i))) := fun W Y i hW hl hi => by
    have h1 := hX.out
    have h2 := hj.out
    have := hW.cell (k := P.length + i) (by simp; omega)
    rw [dg_mid P Y S (by omega), h2] at this
    exact this
  have setX : Hid (∀ W Y i x, Row W g (P ++ (Y ++ S)) → Y.length = X.length → i < n + 1 → Row (W.setCell ⟨g, j + i, none⟩ (.int .u64 ((x : Nat) : Int))) g (P ++ (Y.set i x ++ S))) := fun W Y i x hW hl hi => by
    have h1 := hX.out
    have h2 := hj.out
    have := hW.set (P.length + i) x
    rw [set_mid P Y S (by omega), h2] at this
    exact this
  go_enter Tryd.func96, Tryd.ntmps96
  go_wp2_with fail
  go_loopw [8, 9, 17] (fun cv bv i wr => ∃ k cy bw : Nat, k ≤ n ∧ i = .int .i64 k ∧ cv = .int .u64 cy ∧ bv = .int .u64 bw ∧ ∃ Y, Row wr g (P ++ (Y ++ S)) ∧ TInv X vs Y t k cy bw ∧ w.grownBy wr (some g)) (fun _ _ i _ => n - (intOf i).toNat)
  case atStart => exact ⟨0, 0, 0, Nat.zero_le _, rfl, rfl, rfl, X, hr, TInv.start vs t ho, World.grownBy.refl _ _⟩
  case round =>
    obtain ⟨k, cy, bw, hk, rfl, rfl, rfl, Y, hrY, hi, hgr⟩ := hrel
    have hfr := hrY.frozen (j + k)
    have hcell := cellX.out wr Y k hrY hi.2.1 (by omega)
    by_cases hlt : k < n
    · have hcv := hgr.cell (HY.out k (by rw [hv.out]; exact hlt)) (by simpa using hbne)
      obtain ⟨h0, l0, l1, c1, h1, x', bw', f1, f2, f3, f4, f5, f6, f7, f8, f9⟩ := off_facts (dg_lt h'.ok k) HT.out hi.2.2.1 (dg_lt hi.1 k) hi.2.2.2.1
      have F1 := Lib.hid f1
      have F5 := Lib.hid (And.intro f5 (And.intro f6 (And.intro f7 (And.intro f8 f9))))
      clear f1 f5 f6 f7 f8 f9
      go_wp2_with fail
      refine (F1.out _).mono ?_; rintro e w' ⟨rfl, rfl⟩
      go_wp2_with fail
      go_roundw
      case rel => exact ⟨k + 1, h1, bw', by omega, by go_num, rfl, rfl, Y.set k x', setX.out _ Y k x' hrY hi.2.1 (by omega), hi.step (by rw [hX.out]; omega) F5.out.1 F5.out.2.1 F5.out.2.2.1 F5.out.2.2.2.1 F5.out.2.2.2.2, grown_set hgr (.inl rfl) _⟩
      case measure => simp [intOf]; omega
    · obtain rfl : k = n := by omega
      have f4 := fun W => sub64 (dg Y k) cy bw hi.2.2.2.1 W
      have f5 := sub_digit (dg_lt hi.1 k) hi.2.2.1 hi.2.2.2.1
      generalize hx' : (dg Y k + B - cy - bw) % B = x' at f4 f5
      generalize hbw' : (if dg Y k < cy + bw then 1 else 0) = bw' at f4 f5
      have hb1 : bw' ≤ 1 := by rw [← hbw']; split <;> omega
      have hx1 : x' < B := by rw [← hx']; exact Nat.mod_lt _ B_pos
      have F5 := Lib.hid (And.intro f5 (And.intro hb1 hx1))
      clear f5 hx' hbw' hb1 hx1
      go_wp2_with fail
      go_ret
      obtain ⟨d1, d2, d3⟩ := hi.done hX.out (by rw [hv.out]; exact Nat.le_refl _) F5.out.2.2 F5.out.1
      exact ⟨Y.set k x', bw', rfl, setX.out _ Y k x' hrY hi.2.1 (by omega), d1, d2, F5.out.2.1, d3, grown_set hgr (.inl rfl) _⟩

theorem add64m (x c : Nat) (hc : c ≤ 1) (w : World) : (callFunc 71 #[.int .u64 (x : Int), .int .u64 0, .int .u64 (c : Int)]).run Tryd.prog w =
    .ok (.value (.tuple #[.int .u64 (((x + c) % B : Nat) : Int), .int .u64 (((x + c) / B : Nat) : Int)])) w := add64 x 0 c hc w

set_option maxRecDepth 100000 in
set_option maxHeartbeats 1000000 in
theorem giveBack_any (g j n cap : Nat) (P X S : List Nat) (A' : Option Addr) (c' : Nat) (vs : List Nat) (w : World) (hr : Row w g (P ++ (X ++ S))) (ho : Ok X) (hX : Hid (X.length = n + 1)) (hj : Hid (P.length = j)) (h' : Nums w A' c' vs) (hv : Hid (vs.length = n))
    (hA : Off A' vs g) (hs : n ≤ 4000000) (hn : 0 < n) :
    Calls Tryd.prog 97 #[.slice (some ⟨g, j, none⟩) (n + 1) cap, .slice A' n c'] w (Window w g P S n fun Y cy => val Y + B ^ (n + 1) * cy = val X + val vs) := by
  obtain ⟨b', off', rfl, hcy⟩ := h'.cells (by rw [hv.out]; exact hn)
  have HY := Lib.hid hcy
  have hbne : b' ≠ g := by have := hA (by rw [hv.out]; exact hn) _ rfl; simpa using this
  have HA := Lib.hid hA
  clear hcy hA
  have cellX : Hid (∀ W Y i, Row W g (P ++ (Y ++ S)) → Y.length = X.length → i < n + 1 → W.cell? ⟨g, j + i, none⟩ = some (.int .u64 (dg Y i))) := fun W Y i hW hl hi => by
    have h1 := hX.out
    have h2 := hj.out
    have := hW.cell (k := P.length + i) (by simp; omega)
    rw [dg_mid P Y S (by omega), h2] at this
    exact this
  have setX : Hid (∀ W Y i x, Row W g (P ++ (Y ++ S)) → Y.length = X.length → i < n + 1 → Row (W.setCell ⟨g, j + i, none⟩ (.int .u64 ((x : Nat) : Int))) g (P ++ (Y.set i x ++ S))) := fun W Y i x hW hl hi => by
    have h1 := hX.out
    have h2 := hj.out
    have := hW.set (P.length + i) x
    rw [set_mid P Y S (by omega), h2] at this
    exact this
  go_enter Tryd.func97, Tryd.ntmps97
  go_wp2_with fail
  go_loopw [6, 11] (fun cv i wr => ∃ k cy : Nat, k ≤ n ∧ i = .int .i64 k ∧ cv = .int .u64 cy ∧ ∃ Y, Row wr g (P ++ (Y ++ S)) ∧ GInv X vs Y k cy ∧ w.grownBy wr (some g)) (fun _ i _ => n - (intOf i).toNat)
  case atStart => exact ⟨0, 0, Nat.zero_le _, rfl, rfl, X, hr, GInv.start vs ho, World.grownBy.refl _ _⟩
  case round =>
    obtain ⟨k, cy, hk, rfl, rfl, Y, hrY, hi, hgr⟩ := hrel
    have hfr := hrY.frozen (j + k)
    have hcell := cellX.out wr Y k hrY hi.2.1 (by omega)
    by_cases hlt : k < n
    · have hcv := hgr.cell (HY.out k (by rw [hv.out]; exact hlt)) (by simpa using hbne)
      have had := add64 (dg Y k) (dg vs k) cy hi.2.2.1
      have i1 : (k : Int) < n := by omega
      have i2 : (0 : Int) ≤ k := by omega
      have i3 : (k : Int) < ((n + 1 : Nat) : Int) := by omega
      go_wp2_with fail
      go_region
      all_goals
        go_wp2_with fail
        go_roundw
        case rel => exact ⟨k + 1, _, by omega, by go_num, rfl, _, (setX.out _ Y k _ hrY hi.2.1 (by omega)).drew, hi.step h'.ok (by rw [hX.out]; omega), grown_drew (grown_set hgr (.inl rfl) _)⟩
        case measure => simp [intOf]; omega
    · obtain rfl : k = n := by omega
      have f4 := fun W => add64m (dg Y k) cy hi.2.2.1 W
      go_wp2_with fail
      go_ret
      obtain ⟨d1, d2, d3, d4⟩ := hi.done hX.out (by rw [hv.out]; exact Nat.le_refl _)
      exact ⟨_, _, rfl, setX.out _ Y k _ hrY hi.2.1 (by omega), d1, d2, d3, d4, grown_set hgr (.inl rfl) _⟩
end Go.Proofs.YtjlfcnkndndgaaaDoor
