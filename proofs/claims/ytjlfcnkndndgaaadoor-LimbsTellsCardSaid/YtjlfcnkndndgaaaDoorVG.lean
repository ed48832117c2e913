/-
  The calls of limbs that shift up and that tell the greatest divisor, told of numbers; the laws' own look.
-/
import Derived.Test.YtjlfcnkndndgaaaDoorV
import Derived.Test.YtjlfcnkndndgaaaDoorGcd
namespace Go.Proofs.YtjlfcnkndndgaaaDoor
open Go.RowKit Tw

section
variable {w : World} {A A' : Option Addr} {c c' l l' a b : Nat}
theorem gcd_v (h : V w A c l a) (h' : V w A' c' l' b) (hl : l + l' ≤ 800000) (hT : Hid (Tab w)) : Calls Tryd.prog 13 #[.slice A l c, .slice A' l' c'] w (Tells w (Nat.gcd a b) (l + l')) := by
  have hle : nl (Nat.gcd a b) ≤ l + l' := by
    rcases Nat.eq_zero_or_pos a with e | e
    · rw [e, Nat.gcd_zero_left]; have := h'.le; omega
    · have := nl_mono (Nat.gcd_le_left b e); have := h.le; omega
  obtain ⟨xs, h1, rfl, rfl⟩ := h
  obtain ⟨ys, h2, rfl, rfl⟩ := h'
  exact (gcd_any A A' c c' xs ys w h1 h2 (by omega) (by omega) hT).mono fun _ _ hr => hr.tells hle
theorem shl_v (z : Int) (h : V w A c l a) (hl : l ≤ 800000) : Calls Tryd.prog 22 #[.slice A l c, .int .i64 z] w (Tells w (shlv a z) (l + 16385)) := by
  have hle : nl (shlv a z) ≤ l + 16385 := by
    obtain ⟨m, hm⟩ : ∃ m, m = 16385 := ⟨_, rfl⟩
    rw [← hm]
    unfold shlv
    split
    · rw [nl_zero]; omega
    · refine nl_le_of_lt ?_
      rw [Nat.pow_add]
      refine Nat.mul_lt_mul'' h.lt ?_
      rw [← pow_B]
      exact Nat.pow_lt_pow_right (by omega) (by omega)
  obtain ⟨xs, h1, rfl, rfl⟩ := h
  exact (shl_any A c z xs w h1 (by omega)).mono fun _ _ hr => hr.tells hle
end
theorem is_v {w : World} {A A' : Option Addr} {c c' l l' a b : Nat} (h : C w A c l a) (h' : C w A' c' l' b) (hl : l ≤ 800000) (he : a = b) :
    Calls Tryd.prog 25 #[.slice A l c, .slice A' l' c'] w fun e w' => e = .returned (.bool true) ∧ Below w.heap.size w w' := by
  have HS := Lib.hid (same_v h h' hl he)
  clear he
  go_enter Tryd.func25, Tryd.ntmps25
  go_wp2_with fail
  refine HS.out.mono ?_; rintro e w' ⟨rfl, hb⟩
  go_wp2_with fail
  go_ret
  exact ⟨rfl, hb⟩

end Go.Proofs.YtjlfcnkndndgaaaDoor
