/-
  Contract of limbs: short.
-/
import Derived.Test.YtjlfcnkndndgaaaDoorDiv
import Derived.Test.YtjlfcnkndndgaaaDoorLongNum
namespace Go.Proofs.YtjlfcnkndndgaaaDoor
open Go.RowKit Tw

/-- Two numbers in new memory. -/
def Ret2 (w : World) (q r : Nat) (e : Ending) (w' : World) : Prop :=
  ∃ A c A' c', e = .returned (.tuple #[.slice A (nl q) c, .slice A' (nl r) c']) ∧ Own w' w.heap.size A c q ∧ Own w' w.heap.size A' c' r ∧ Below w.heap.size w w'

set_option maxRecDepth 100000 in
set_option maxHeartbeats 1000000 in
theorem short_any (A : Option Addr) (c d n : Nat) (xs : List Nat) (w : World) (h : Nums w A c xs) (hn : Hid (xs.length = n)) (hs : n ≤ 1000000) (hd : Hid (0 < d ∧ d < B)) :
    Calls Tryd.prog 68 #[.slice A n c, .int .u64 (d : Int)] w (Ret2 w (val xs / d) (val xs % d)) := by
  have hmk := make_words n (by omega)
  obtain ⟨g, hg⟩ : ∃ g, g = w.heap.size := ⟨_, rfl⟩
  have HX := Lib.hid h.cells
  go_enter Tryd.func68, Tryd.ntmps68
  go_wp2_with fail
  rw [← hg]
  have HG := Lib.hid hg
  clear hg hmk
  go_loopw [8, 16] (fun rv i wr => ∃ k r : Nat, k ≤ n ∧ i = .int .i64 k ∧ rv = .int .u64 r ∧ ∃ qs, qs.length = n ∧ Row wr g qs ∧ ShortInv xs d qs (n - k) r ∧ Below w.heap.size w wr) (fun _ i _ => n - (intOf i).toNat)
  case atStart => exact ⟨0, 0, Nat.zero_le _, rfl, rfl, List.replicate n 0, by simp, by rw [HG.out]; exact Row.new w _, by have := ShortInv.start (xs := xs) (qs := List.replicate n 0) (d := d) (Ok.replicate n) (by simp [hn.out]); rw [hn.out] at this; exact this, (Below.refl _ _).alloc (Nat.le_refl _) _⟩
  case round =>
    obtain ⟨k, r, hk, rfl, rfl, qs, hq, hr, hi, hb⟩ := hrel
    by_cases hlt : k < n
    · obtain ⟨b, off, rfl, hcx⟩ := HX.out (by rw [hn.out]; omega)
      have hcell := (hb.cell (p := ⟨b, off + (n - 1 - k), none⟩) (World.block_lt_of_cell? w _ (hcx (n - 1 - k) (by rw [hn.out]; omega)))).trans (hcx (n - 1 - k) (by rw [hn.out]; omega))
      have hxl : n - 1 - k < xs.length := by rw [hn.out]; omega
      rw [show n - k = n - 1 - k + 1 from by omega] at hi
      obtain ⟨hst, hrd⟩ := hi.step hd.out.1 hd.out.2 h.ok hxl (by rw [hq, hn.out])
      have hdv := fun W => div64 r (dg xs (n - 1 - k)) d W hrd (dg_lt h.ok _) hd.out.2
      generalize (r * B + dg xs (n - 1 - k)) / d = q1 at hst hdv
      generalize (r * B + dg xs (n - 1 - k)) % d = r1 at hst hdv
      have hcq := hr.cell (k := n - 1 - k) (by omega)
      have hfr := hr.frozen (n - 1 - k)
      have HST := Lib.hid (And.intro hst hq)
      have HDV := Lib.hid hdv
      clear hcx hi hst hdv hq hrd
      go_wp2_with fail
      refine (HDV.out _).mono ?_; rintro e w' ⟨rfl, m, rfl⟩
      go_wp2_with fail
      go_roundw
      case rel => exact ⟨k + 1, r1, by omega, by go_num, rfl, qs.set (n - 1 - k) q1, by rw [List.length_set]; exact HST.out.2, (hr.set (n - 1 - k) q1).drewN _, by rw [show n - (k + 1) = n - 1 - k from by omega]; exact HST.out.1, below_drewN (hb.setCell (by rw [HG.out]; exact Nat.le_refl _) _) _⟩
      case measure => simp [intOf]; omega
    · obtain rfl : k = n := by omega
      rw [Nat.sub_self] at hi
      obtain ⟨ho, hv, hrr⟩ := hi
      rw [List.drop_zero, List.drop_zero] at hv
      rw [List.drop_zero] at hrr
      have ht := tidy_row g k qs wr hr ho (by omega) (by omega) w.heap.size (val xs / d) (by rw [HG.out]; exact Nat.le_refl _) (by rw [List.take_of_length_le (by omega)]; exact hv)
      rw [hq] at ht
      have HT := Lib.hid ht
      have HR := Lib.hid hrr
      clear ht hv hq hrr
      go_wp2_with fail
      refine HT.out.mono ?_; rintro e w1 ⟨A1, c1, rfl, ho1, rfl⟩
      go_wp2_with fail
      have hrB : r < B := by rw [HR.out]; exact Nat.lt_trans (Nat.mod_lt _ hd.out.1) hd.out.2
      have ht2 := tidy_row wr.heap.size 1 [r] (wr.alloc (.cells (cellsOf [r]) 29)) (Row.new wr [r]) (Ok.cons hrB Ok.nil) (by simp) (by omega) w.heap.size (val xs % d) hb.size (by rw [← HR.out]; simp [val])
      refine ht2.mono ?_; rintro e w2 ⟨A2, c2, rfl, ho2, rfl⟩
      go_wp2_with fail
      go_ret2
      have hb2 : Below wr.heap.size wr (wr.alloc (.cells (cellsOf [r]) 29)) := (Below.refl _ _).alloc (Nat.le_refl _) _
      exact ⟨A1, c1, A2, c2, rfl, ho1.below hb2, ho2, below_trans hb hb2⟩
end Go.Proofs.YtjlfcnkndndgaaaDoor
