/-
  Contracts of limbs: tidy, Trim, Cmp; cmp.Compare at int and uint64; the reader of digits.
-/
import Derived.Test.YtjlfcnkndndgaaaDoorMem
namespace Go.Proofs.YtjlfcnkndndgaaaDoor
open Go.RowKit Tw

/-- -1, 0, 1. -/
def cmpI (x y : Int) : Int := if x < y then -1 else if y < x then 1 else 0
theorem cmpI_lt {x y : Int} (h : x < y) : cmpI x y = -1 := by simp [cmpI, h]
theorem cmpI_gt {x y : Int} (h : y < x) : cmpI x y = 1 := by unfold cmpI; rw [if_neg (by omega), if_pos h]
theorem cmpI_eq (x : Int) : cmpI x x = 0 := by simp [cmpI]

theorem compare_int (x y : Int) (w : World) : Calls Tryd.prog 75 #[.int .i64 x, .int .i64 y] w fun e w' => e = .returned (.int .i64 (cmpI x y)) ∧ w = w' := by
  rcases Int.lt_trichotomy x y with h | h | h
  · have HE := Lib.hid (cmpI_lt h)
    go_enter Tryd.func75, Tryd.ntmps75
    go_wp2
    go_ret
    exact ⟨ret_int HE.out.symm, rfl⟩
  · subst h
    have HE := Lib.hid (cmpI_eq x)
    go_enter Tryd.func75, Tryd.ntmps75
    go_wp2
    go_ret
    exact ⟨ret_int HE.out.symm, rfl⟩
  · have HE := Lib.hid (cmpI_gt h)
    go_enter Tryd.func75, Tryd.ntmps75
    go_wp2
    go_ret
    exact ⟨ret_int HE.out.symm, rfl⟩

theorem compare_u64 (x y : Int) (w : World) : Calls Tryd.prog 76 #[.int .u64 x, .int .u64 y] w fun e w' => e = .returned (.int .i64 (cmpI x y)) ∧ w = w' := by
  rcases Int.lt_trichotomy x y with h | h | h
  · have HE := Lib.hid (cmpI_lt h)
    go_enter Tryd.func76, Tryd.ntmps76
    go_wp2
    go_ret
    exact ⟨ret_int HE.out.symm, rfl⟩
  · subst h
    have HE := Lib.hid (cmpI_eq x)
    go_enter Tryd.func76, Tryd.ntmps76
    go_wp2
    go_ret
    exact ⟨ret_int HE.out.symm, rfl⟩
  · have HE := Lib.hid (cmpI_gt h)
    go_enter Tryd.func76, Tryd.ntmps76
    go_wp2
    go_ret
    exact ⟨ret_int HE.out.symm, rfl⟩

/-- What tidy hands back of a slice that counts n. -/
def Tid (A : Option Addr) (c n : Nat) (A' : Option Addr) (c' : Nat) : Prop := (n = 0 ∧ A' = none ∧ c' = 0) ∨ (n ≠ 0 ∧ A' = A ∧ c' = c)
def TidyPost (w : World) (A : Option Addr) (c n : Nat) (e : Ending) (w' : World) : Prop := ∃ A' c', e = .returned (.slice A' (nl n) c') ∧ Tid A c n A' c' ∧ w = w'

theorem tidy_any (A : Option Addr) (c : Nat) (xs : List Nat) (w : World) (h : Nums w A c xs) (hs : xs.length ≤ 4000000) :
    Calls Tryd.prog 72 #[.slice A xs.length c] w (TidyPost w A c (val xs)) := by
  have hl := nl_val h.ok
  have hu := fun W (hW : Nums W A c xs) => used_any A c xs W hW hs
  have HU := Lib.hid hu
  have hle := h.le
  by_cases h0 : val xs = 0
  · have h1 : (((nl (val xs) : Nat) : Int) == 0) = true := by simp [h0, nl_zero]
    have HT : Hid (TidyPost w A c (val xs) (.returned (.slice none 0 0)) w) := ⟨none, 0, by rw [h0]; rfl, .inl ⟨h0, rfl, rfl⟩, rfl⟩
    clear h0 hu
    go_enter Tryd.func72, Tryd.ntmps72
    go_wp2_with (go_at_call 67; refine (HU.out _ h).mono ?_; rintro e w' ⟨rfl, rfl⟩)
    go_ret
    exact HT.out
  · have h1 : (((nl (val xs) : Nat) : Int) == 0) = false := by simp [nl_eq_zero, h0]
    have hp : 0 < nl (val xs) := by rcases Nat.eq_zero_or_pos (nl (val xs)) with e | e; exact absurd (nl_eq_zero.1 e) h0; exact e
    have HT : Hid (TidyPost w A c (val xs) (.returned (.slice A (nl (val xs)) c)) w) := ⟨A, c, rfl, .inr ⟨h0, rfl, rfl⟩, rfl⟩
    obtain ⟨b, off, rfl, hcell⟩ := h.cells (by omega)
    clear h0 hu hcell
    go_enter Tryd.func72, Tryd.ntmps72
    go_wp2_with (go_at_call 67; refine (HU.out _ h).mono ?_; rintro e w' ⟨rfl, rfl⟩)
    go_ret
    exact HT.out

/-- tidy of the first k digits of a block of the call's own. -/
theorem tidy_at (g k : Nat) (zs : List Nat) (w : World) (h : Row w g zs) (ho : Ok zs) (hk : k ≤ zs.length) (hs : k ≤ 4000000) (n : Nat) (hn : val (zs.take k) = n) :
    Calls Tryd.prog 72 #[.slice (some ⟨g, 0, none⟩) k zs.length] w fun e w' => ∃ A c, e = .returned (.slice A (nl n) c) ∧ OwnAt w g A c n ∧ w = w' := by
  have hlen : (zs.take k).length = k := by rw [List.length_take]; omega
  have hN := (h.nums ho).front k
  have ht := tidy_any _ _ _ _ hN (by rw [hlen]; omega)
  rw [hlen, hn] at ht
  refine ht.mono fun e w' ⟨A, c, he, hT, hw⟩ => ⟨A, c, he, ?_, hw⟩
  have hln : nl n ≤ k := by rw [← hn]; have := nl_val (ho.take k); omega
  rcases hT with ⟨h0, rfl, rfl⟩ | ⟨h0, rfl, rfl⟩
  · exact .inl ⟨h0, rfl, rfl⟩
  · refine .inr ⟨h0, rfl, zs, h, rfl, by omega, ?_, ho⟩
    have := limbs_take (ho.take k)
    rw [hn, List.take_take, Nat.min_eq_left hln] at this
    exact this
theorem tidy_row (g k : Nat) (zs : List Nat) (w : World) (h : Row w g zs) (ho : Ok zs) (hk : k ≤ zs.length) (hs : k ≤ 4000000) (B n : Nat) (hB : B ≤ g) (hn : val (zs.take k) = n) :
    Calls Tryd.prog 72 #[.slice (some ⟨g, 0, none⟩) k zs.length] w fun e w' => ∃ A c, e = .returned (.slice A (nl n) c) ∧ Own w B A c n ∧ w = w' :=
  (tidy_at g k zs w h ho hk hs n hn).mono fun _ _ ⟨A, c, he, ha, hw⟩ => ⟨A, c, he, ha.own hB, hw⟩

end Go.Proofs.YtjlfcnkndndgaaaDoor
