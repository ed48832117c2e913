/-
  Whole numbers: the greatest divisor; numbers that a text lays; quotients by 0.
-/
import Derived.Test.YtionhpangenhnaaDoorZWb
import Derived.Test.YtionhpangenhnaaDoorZGcd
namespace Go.Proofs.YtionhpangenhnaaDoor
open Go.RowKit Tw

section
variable {w : World} {A A' : Option Addr} {c c' l l' : Nat} {b b' : Bool} {z z' : Int}
set_option maxRecDepth 100000 in
set_option maxHeartbeats 4000000 in
theorem gcd_z (h : I w b A c l z) (h' : I w b' A' c' l' z') (hl : l + l' ≤ 800000) (hT : Hid (Tab w)) :
    Calls Tryd.prog 97 #[.agg #[.bool b, .slice A l c], .agg #[.bool b', .slice A' l' c']] w (TellsZ w (Int.gcd z z' : Int) (l + l')) := by
  obtain ⟨n, h1, rfl⟩ := h
  obtain ⟨n', h1', rfl⟩ := h'
  have HE : Hid ((Int.gcd (sgn b n) (sgn b' n') : Int) = (Nat.gcd n n' : Int)) := by
    show _ = _
    unfold Int.gcd
    rw [sgn_abs, sgn_abs]
  obtain ⟨W, hW, x0, x1, x2, hB⟩ := box2 w (.bool b) (.slice A l c) (.bool b') (.slice A' l' c') (.bool false) (.slice none 0 0)
  have HV := Lib.hid (h1.below hB)
  have HV' := Lib.hid (h1'.below hB)
  have HT := Lib.hid (Tab.below hT.out hB)
  have HY := Lib.hid x2
  obtain ⟨⟨a1, a2⟩, _, a4⟩ := x0.look
  obtain ⟨⟨a1', a2'⟩, _, a4'⟩ := x1.look
  clear h1 h1' x0 x1 x2 hT
  go_enter Tryd.func97, Tryd.ntmps97
  go_wp2_with fail
  rw [← hW]
  clear hW
  with_reducible refine (gcd_v HV.out HV'.out hl HT).mono ?_
  rintro e w1 ⟨A1, c1, l1, rfl, h1, m1, b1⟩
  go_wp2_with fail
  with_reducible refine (signed_c false (Nat.gcd n n' : Int) h1 rfl).mono ?_
  rintro e w2 ⟨rfl, b2⟩
  have b3 := below_trans b1 b2
  obtain ⟨⟨y1, y2⟩, ⟨y3, y4⟩, y5⟩ := (HY.out.below b3).look
  go_wp2_with fail
  (try simp only [Exit.inBlock, Exit.then])
  refine bodyPost_ret (by simp [results, Tryd.results97, go_sem, y1, y2]; try rfl) rfl ?_
  exact ⟨_, A1, c1, l1, rfl, ⟨by rw [HE.out]; exact (h1.below b2).box y1 y2 (fun _ e => by cases e), by rw [HE.out]⟩, m1, ((below_trans hB b3).setCell (by simp only []; omega) _).setCell (by simp only []; omega) _⟩
end
/-- A number whose digits a text lays. -/
theorem i_lit (w : World) (b : Bool) (xs : List Nat) (l : Nat) (z : Int) (ho : Ok xs) (hl : xs.length = l) (hz : sgn b (val xs) = z) : I (w.alloc (.cells (cellsOf xs) 22)) b (some ⟨w.heap.size, 0, none⟩) l l z :=
  ⟨_, lit_v w xs l _ ho hl rfl, hz⟩
theorem i_none (w : World) (b : Bool) : I w b none 0 0 0 := ⟨0, ⟨[], Nums.nil _ _ _, rfl, rfl⟩, by unfold sgn; cases b <;> rfl⟩
end Go.Proofs.YtionhpangenhnaaDoor
