/-
  Contracts of limbs: the reader of digits, Add.
-/
import Derived.Test.YtjlfcnkndndgaaaDoorLowB
import Derived.Shelf.Spec.BitsCarry
namespace Go.Proofs.YtjlfcnkndndgaaaDoor
open Go.RowKit Tw

/-- Block g holds one slice value. -/
def Box (w : World) (g : Nat) (v : Value) : Prop := w.heap[g]? = some (.cells #[v] 22 (0, 0))
section
variable {w w' : World} {g : Nat} {v : Value}
theorem Box.lt (h : Box w g v) : g < w.heap.size := (Array.getElem?_eq_some_iff.1 h).1
theorem Box.cell (h : Box w g v) : w.cell? ⟨g, 0, none⟩ = some v := by rw [cell_of_row w g 0 _ _ _ h]; rfl
theorem Box.grown (h : Box w g v) {row : Option Nat} (hb : w.grownBy w' row) (hg : some g ≠ row) : Box w' g v := (hb.block g h.lt hg).trans h
theorem Box.below (h : Box w g v) (hb : Below w.heap.size w w') : Box w' g v := (hb.block g h.lt).trans h
theorem Box.far (h : Box w g v) {p : Addr} (hp : g ≠ p.block) (u : Value) : Box (w.setCell p u) g v := (heap_setCell_other w p g u hp).trans h
theorem Box.ne {g' : Nat} {ys : List Nat} (h : Box w g v) (h' : Row w g' ys) : g ≠ g' := by
  rintro rfl
  unfold Box at h; unfold Row at h'
  rw [h] at h'
  injection h' with h'
  injection h' with _ ht
  exact absurd ht (by decide)
end

/-- What reader hands back: its digits are those of the slice. -/
def rdr (g : Nat) : Value := .func (Fn.func 91) #[] #[.pointer (some ⟨g, 0, none⟩)]

theorem reader_any (A : Option Addr) (n c : Nat) (w : World) :
    Calls Tryd.prog 73 #[.slice A n c] w fun e w' => ∃ g, e = .returned (.func (Fn.func 91) #[] #[.pointer (some ⟨g, 0, none⟩)]) ∧ Box w' g (.slice A n c) ∧ w.heap.size ≤ g ∧ Below w.heap.size w w' := by
  have HB : Hid (Box (w.alloc (.cells #[Value.slice A n c] 22)) w.heap.size (.slice A n c)) := heap_alloc_new w _
  go_enter Tryd.func73, Tryd.ntmps73
  go_wp2
  go_ret
  exact ⟨_, rfl, HB.out, Nat.le_refl _, (Below.refl _ _).alloc (Nat.le_refl _) _⟩

/-- A digit by its reader: 0 where there is none. -/
theorem read_any (g : Nat) (A : Option Addr) (c i : Nat) (xs : List Nat) (w : World) (hg : w.cell? ⟨g, 0, none⟩ = some (.slice A xs.length c)) (h : Nums w A c xs) :
    Calls Tryd.prog 91 #[.int .i64 (i : Int), .pointer (some ⟨g, 0, none⟩)] w fun e w' => e = .returned (.int .u64 (dg xs i)) ∧ w = w' := by
  by_cases hi : i < xs.length
  · obtain ⟨b, off, rfl, hcell⟩ := h.cells (by omega)
    have c1 := hcell i hi
    clear hcell
    go_enter Tryd.func91, Tryd.ntmps91
    go_wp2
    go_ret
    exact ⟨rfl, rfl⟩
  · have HD := Lib.hid (dg_past (xs := xs) (k := i) (by omega))
    go_enter Tryd.func91, Tryd.ntmps91
    go_wp2
    go_ret
    rw [HD.out]
    exact ⟨rfl, rfl⟩

theorem add64 (x y c : Nat) (hc : c ≤ 1) (w : World) : (callFunc 71 #[.int .u64 x, .int .u64 y, .int .u64 c]).run Tryd.prog w =
    .ok (.value (.tuple #[.int .u64 (((x + y + c) % B : Nat) : Int), .int .u64 (((x + y + c) / B : Nat) : Int)])) w := by
  rw [run_callFunc_extern Tryd.func71 (by kernel_rfl) (by kernel_rfl) (by kernel_rfl) (e := add64Entry) (by kernel_rfl), run_add64 x y c (by omega) (by omega) (by omega) (by omega)]
  simp only [Result.andThen, B_eq]
  congr 5 <;> omega

theorem sub64 (x y b : Nat) (hb : b ≤ 1) (w : World) : (callFunc 92 #[.int .u64 x, .int .u64 y, .int .u64 b]).run Tryd.prog w =
    .ok (.value (.tuple #[.int .u64 (((x + B - y - b) % B : Nat) : Int), .int .u64 ((if x < y + b then 1 else 0 : Nat) : Int)])) w := by
  rw [run_callFunc_extern Tryd.func92 (by kernel_rfl) (by kernel_rfl) (by kernel_rfl) (e := sub64Entry) (by kernel_rfl), run_sub64 x y b hb]
  rfl

set_option maxHeartbeats 1000000 in
theorem add_any (A A' : Option Addr) (c c' : Nat) (xs ys : List Nat) (w : World) (h : Nums w A c xs) (h' : Nums w A' c' ys) (hs : xs.length ≤ 1000000) (hs' : ys.length ≤ 1000000) :
    Calls Tryd.prog 18 #[.slice A xs.length c, .slice A' ys.length c'] w (Ret w (val xs + val ys)) := by
  have hl := nl_val h.ok
  have hl' := nl_val h'.ok
  have HU := Lib.hid (fun W (hW : Nums W A c xs) => used_any A c xs W hW (by omega))
  have HU' := Lib.hid (fun W (hW : Nums W A' c' ys) => used_any A' c' ys W hW (by omega))
  obtain ⟨n, hn⟩ : ∃ n, n = max (nl (val xs)) (nl (val ys)) := ⟨_, rfl⟩
  have hn1 : nl (val xs) ≤ n := by omega
  have hn2 : nl (val ys) ≤ n := by omega
  have hn3 : n ≤ 1000000 := by omega
  have hmx : (if nl (val xs) < nl (val ys) then ((nl (val ys) : Nat) : Int) else ((nl (val xs) : Nat) : Int)) = (n : Int) := by split <;> omega
  have hmk := make_words (n + 1) (by omega)
  rw [show ((n + 1 : Nat) : Int) = (n : Int) + 1 from by omega] at hmk
  clear hn
  go_enter Tryd.func18, Tryd.ntmps18
  go_wp2_with fail
  refine (HU.out _ h).mono ?_; rintro e w' ⟨rfl, rfl⟩
  go_wp2_with fail
  refine (HU'.out _ h').mono ?_; rintro e w' ⟨rfl, rfl⟩
  go_wp2_with fail
  clear hmx
  refine (reader_any _ _ _ _).mono ?_; rintro e w1 ⟨g1, rfl, hx1, hg1, hb1⟩
  go_wp2_with fail
  refine (reader_any _ _ _ _).mono ?_; rintro e w2 ⟨g2, rfl, hx2, hg2, hb2⟩
  have hbA := below_trans hb1 hb2
  have hN1 := h.below hbA
  have hN2 := h'.below hbA
  have hX1 := hx1.below hb2
  obtain ⟨g, hg⟩ : ∃ g, g = w2.heap.size := ⟨_, rfl⟩
  go_wp2_with fail
  rw [← hg]
  have HG := Lib.hid hg
  clear hg hmk
  go_loopw [9, 24] (fun cv i wr => ∃ k cy : Nat, k ≤ n ∧ i = .int .i64 k ∧ cv = .int .u64 cy ∧ ∃ zs, zs.length = n + 1 ∧ Row wr g zs ∧ AddInv xs ys zs k cy ∧ Below w2.heap.size w2 wr) (fun _ i _ => n - (intOf i).toNat)
  case atStart => exact ⟨0, 0, Nat.zero_le _, rfl, rfl, List.replicate (n + 1) 0, by simp, by rw [HG.out]; exact Row.new w2 _, AddInv.start _ _ _, (Below.refl _ _).alloc (Nat.le_refl _) _⟩
  case round =>
    obtain ⟨k, cy, hk, rfl, rfl, zs, hz, hr, hi, hb⟩ := hrel
    by_cases hlt : k < n
    · have had := add64 (dg xs k) (dg ys k) cy hi.2.1
      have hcell := hr.cell (k := k) (by omega)
      have hfr := hr.frozen k
      have HZ := Lib.hid hz
      clear hz
      go_wp2_with fail
      refine (read_any g1 A c k xs _ (hX1.below hb).cell (hN1.below hb)).mono ?_; rintro e w' ⟨rfl, rfl⟩
      go_wp2_with fail
      refine (read_any g2 A' c' k ys _ (hx2.below hb).cell (hN2.below hb)).mono ?_; rintro e w' ⟨rfl, rfl⟩
      go_wp2_with fail
      go_roundw
      case rel => exact ⟨k + 1, _, by omega, by go_num, rfl, _, by rw [List.length_set]; exact HZ.out, hr.set k _, hi.step h.ok h'.ok (by have := HZ.out; omega), hb.setCell (by rw [HG.out]; exact Nat.le_refl _) _⟩
      case measure => simp [intOf]; omega
    · obtain rfl : k = n := by omega
      have hcell := hr.cell (k := k) (by omega)
      have hfr := hr.frozen k
      have HZ := Lib.hid hz
      clear hz
      go_wp2_with fail
      obtain ⟨ho, hv⟩ := hi.done h.ok h'.ok HZ.out hn1 hn2
      have ht := tidy_row g (k + 1) (zs.set k cy) _ (hr.set k cy) ho (by rw [List.length_set, HZ.out]; omega) (by omega) w.heap.size (val xs + val ys) (by rw [HG.out]; exact hbA.size) (by rw [List.take_of_length_le (by rw [List.length_set, HZ.out]; omega)]; exact hv)
      rw [List.length_set, HZ.out] at ht
      have HT := Lib.hid ht
      clear ht hv
      refine HT.out.mono ?_; rintro e w' ⟨A1, c1, rfl, ho1, rfl⟩
      go_wp2_with fail
      go_ret
      exact ⟨A1, c1, rfl, ho1, below_trans hbA (hb.setCell (by rw [HG.out]; exact Nat.le_refl _) _)⟩
end Go.Proofs.YtjlfcnkndndgaaaDoor
