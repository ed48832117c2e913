/-
  tripwirelow.Pick.
-/
import Derived.Test.YtionhpangenhnaaDoorSh1
namespace Go.Proofs.YtionhpangenhnaaDoor
open Go.RowKit Tw

set_option maxRecDepth 100000 in
set_option maxHeartbeats 4000000 in
/-- Pick tells a number from 0 on, below n. -/
theorem pick_q (x : Int) (n : Nat) (w : World) (_hx : -9223372036854775808 ≤ x ∧ x ≤ 9223372036854775807) (hn : 1 ≤ n) (hn2 : n ≤ 1000000000) :
    Calls Tryd.prog 18 #[.int .i64 x, .int .i64 (n : Int)] w fun e w' => (∃ m : Nat, m < n ∧ e = .returned (.int .i64 (m : Int))) ∧ w = w' := by
  have t1 : Int.tmod x n < n := Int.tmod_lt_of_pos _ (by omega)
  have t2 : -(n : Int) < Int.tmod x n := by
    have := Int.lt_tmod_of_pos x (b := (n : Int)) (by omega)
    omega
  obtain ⟨y, hy⟩ : ∃ y, y = Int.tmod x n := ⟨_, rfl⟩
  rw [← hy] at t1 t2
  have r1 : Int.tmod x n = y := hy.symm
  clear hy
  by_cases h : y < 0
  · go_enter Tryd.func18, Tryd.ntmps18
    go_wp2_with fail
    go_ret
    exact ⟨⟨(y + n).toNat, by omega, by rw [Int.toNat_of_nonneg (by omega)]; rfl⟩, rfl⟩
  · go_enter Tryd.func18, Tryd.ntmps18
    go_wp2_with fail
    go_ret
    exact ⟨⟨y.toNat, by omega, by rw [Int.toNat_of_nonneg (by omega)]; rfl⟩, rfl⟩
end Go.Proofs.YtionhpangenhnaaDoor
