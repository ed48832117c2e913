/-
  What lies in memory: a slice of 64-bit digits that reads as a list; a block of digits that is known whole; what a call hands back.
-/
import Derived.Test.YtjlfcnkndndgaaaDoorRows
import Derived.Test.YtjlfcnkndndgaaaDoorNum
import Derived.WalkKit
import Derived.WalkSpells
import Derived.WalkLawsBesides
import Derived.Lib.Hide
import Derived.Laws.CopyOwn
import Derived.Deep.OwnRows
import Derived.Deep.Draws
import Derived.Deep.QuietTactic
import Derived.BigQuiet
namespace Go.Proofs.YtjlfcnkndndgaaaDoor
open Go.RowKit Tw

theorem ret_int {k : IntKind} {a b : Int} (h : a = b) : Ending.returned (.int k a) = .returned (.int k b) := by rw [h]

/-- A quiet call inside a region that draws, behind earlier draws. -/
theorem quiet_at {P : Program} {f : FuncId} {args : Array Value} {w : World} {n : Nat} {v : Value} (h : Calls P f args (w.drewN n) fun e w' => e = .returned v ∧ w.drewN n = w') :
    Calls P f args (w.drewN n) fun e w'' => e = .returned v ∧ ∃ m, w'' = w.drewN m := h.mono fun _ _ ⟨he, hm⟩ => ⟨he, n, hm.symm⟩
theorem quiet_at2 {P : Program} {f : FuncId} {args : Array Value} {w : World} {a n : Nat} {v : Value} (h : Calls P f args (w.drewN (a + n)) fun e w' => e = .returned v ∧ w.drewN (a + n) = w') :
    Calls P f args (w.drewN (a + n)) fun e w'' => e = .returned v ∧ ∃ m, w'' = w.drewN (a + m) := h.mono fun _ _ ⟨he, hm⟩ => ⟨he, n, hm.symm⟩

/-- The slice at A reads as the digits xs; its capacity is c. -/
structure Nums (w : World) (A : Option Addr) (c : Nat) (xs : List Nat) : Prop where
  ok : Ok xs
  le : xs.length ≤ c
  cells : 0 < xs.length → ∃ b off, A = some ⟨b, off, none⟩ ∧ ∀ k, k < xs.length → w.cell? ⟨b, off + k, none⟩ = some (.int .u64 (dg xs k))

theorem Nums.keep {w w' : World} {A : Option Addr} {c : Nat} {xs : List Nat} (h : Nums w A c xs) (hk : ∀ p v, (∃ a, A = some a ∧ a.block = p.block) → w.cell? p = some v → w'.cell? p = some v) : Nums w' A c xs :=
  ⟨h.ok, h.le, fun hp => by
    obtain ⟨b, off, rfl, hc⟩ := h.cells hp
    exact ⟨b, off, rfl, fun k hkl => hk _ _ ⟨_, rfl, rfl⟩ (hc k hkl)⟩⟩
theorem Nums.below {w w' : World} {A : Option Addr} {c : Nat} {xs : List Nat} (h : Nums w A c xs) (hb : Below w.heap.size w w') : Nums w' A c xs :=
  h.keep fun p _ _ hc => (hb.cell (World.block_lt_of_cell? w p hc)).trans hc
theorem Nums.drewN {w : World} {A : Option Addr} {c : Nat} {xs : List Nat} (h : Nums w A c xs) (n : Nat) : Nums (w.drewN n) A c xs := ⟨h.ok, h.le, h.cells⟩
theorem Nums.drew {w : World} {A : Option Addr} {c : Nat} {xs : List Nat} (h : Nums w A c xs) : Nums w.drew A c xs := ⟨h.ok, h.le, h.cells⟩
/-- Block g alone has been written, and the slice does not lie there. -/
theorem Nums.grown {w w' : World} {A : Option Addr} {c : Nat} {xs : List Nat} {row : Option Nat} (h : Nums w A c xs) (hg : w.grownBy w' row) (hA : ∀ a, A = some a → some a.block ≠ row) : Nums w' A c xs :=
  h.keep fun p _ ⟨a, ha, hp⟩ hc => hg.cell hc (by rw [← hp]; exact hA a ha)
/-- The slice, if it holds anything, does not lie in block g. -/
def Off (A : Option Addr) (xs : List Nat) (g : Nat) : Prop := 0 < xs.length → ∀ a, A = some a → a.block ≠ g
theorem Nums.off {w : World} {A : Option Addr} {c g : Nat} {xs : List Nat} (h : Nums w A c xs) (hg : w.heap.size ≤ g) : Off A xs g := fun hp a ha => by
  obtain ⟨b, o, rfl, hc⟩ := h.cells hp
  have := World.block_lt_of_cell? w _ (hc 0 hp)
  cases ha
  simp at this ⊢
  omega
theorem Nums.grownOff {w w' : World} {A : Option Addr} {c g : Nat} {xs : List Nat} (h : Nums w A c xs) (hg : w.grownBy w' (some g)) (hA : Off A xs g) : Nums w' A c xs :=
  ⟨h.ok, h.le, fun hp => by
    obtain ⟨b, off, rfl, hc⟩ := h.cells hp
    exact ⟨b, off, rfl, fun k hkl => hg.cell (hc k hkl) (by simpa using hA hp _ rfl)⟩⟩
theorem Nums.nil (w : World) (A : Option Addr) (c : Nat) : Nums w A c [] := ⟨Ok.nil, Nat.zero_le _, fun h => absurd h (by simp)⟩
/-- A beginning of the slice. -/
theorem Nums.front {w : World} {A : Option Addr} {c : Nat} {xs : List Nat} (h : Nums w A c xs) (n : Nat) : Nums w A c (xs.take n) :=
  ⟨h.ok.take n, Nat.le_trans (by simp [List.length_take]; omega) h.le, fun hp => by
    rw [List.length_take] at hp
    obtain ⟨b, off, rfl, hc⟩ := h.cells (by omega)
    refine ⟨b, off, rfl, fun k hk => ?_⟩
    rw [List.length_take] at hk
    rw [hc k (by omega)]
    unfold dg
    rw [List.getD_eq_getElem?_getD, List.getD_eq_getElem?_getD, List.getElem?_take, if_pos (by omega)]⟩

/-- The cells of digits. -/
def cellsOf (ys : List Nat) : Array Value := (ys.map fun (y : Nat) => Value.int .u64 (y : Int)).toArray
theorem size_cellsOf (ys : List Nat) : (cellsOf ys).size = ys.length := by simp [cellsOf]

/-- Block g is just the digits ys; none is frozen. -/
def Row (w : World) (g : Nat) (ys : List Nat) : Prop := w.heap[g]? = some (.cells (cellsOf ys) 29 (0, 0))

section
variable {w w' : World} {g : Nat} {ys : List Nat}
theorem Row.lt (h : Row w g ys) : g < w.heap.size := (Array.getElem?_eq_some_iff.1 h).1
theorem Row.cell (h : Row w g ys) {k : Nat} (hk : k < ys.length) : w.cell? ⟨g, k, none⟩ = some (.int .u64 (dg ys k)) := by
  rw [cell_of_row w g k _ _ _ h]
  unfold cellsOf
  rw [List.getElem?_toArray, List.getElem?_map, dg_get hk]
  rfl
theorem Row.frozen (h : Row w g ys) (k : Nat) : w.frozen? ⟨g, k, none⟩ = false := frozen_of_row w g k _ _ h
theorem Row.set (h : Row w g ys) (k x : Nat) : Row (w.setCell ⟨g, k, none⟩ (.int .u64 (x : Int))) g (ys.set k x) := by
  have := heap_setCell_same w g k _ _ (.int .u64 (x : Int)) h
  unfold Row
  rw [this]
  congr 2
  unfold cellsOf
  rw [List.setIfInBounds_toArray, List.map_set]
theorem Row.far (h : Row w g ys) {p : Addr} (hp : g ≠ p.block) (u : Value) : Row (w.setCell p u) g ys := (heap_setCell_other w p g u hp).trans h
theorem Row.alloc (h : Row w g ys) (o : Obj) : Row (w.alloc o) g ys := (Below.heap_alloc w o g h.lt).trans h
theorem Row.below (h : Row w g ys) {B : Nat} (hb : Below B w w') (hB : g < B) : Row w' g ys := (hb.block g hB).trans h
theorem Row.grown (h : Row w g ys) {row : Option Nat} (hb : w.grownBy w' row) (hg : some g ≠ row) : Row w' g ys := (hb.block g h.lt hg).trans h
theorem Row.new (w : World) (ys : List Nat) : Row (w.alloc (.cells (cellsOf ys) 29)) w.heap.size ys := heap_alloc_new w _
theorem Row.drewN (h : Row w g ys) (n : Nat) : Row (w.drewN n) g ys := h
theorem Row.drew (h : Row w g ys) : Row w.drew g ys := h
theorem Row.nums (h : Row w g ys) (ho : Ok ys) : Nums w (some ⟨g, 0, none⟩) ys.length ys :=
  ⟨ho, Nat.le_refl _, fun _ => ⟨g, 0, rfl, fun k hk => by rw [Nat.zero_add]; exact h.cell hk⟩⟩
end

theorem cells_zero (n : Nat) : madeCells #[.int .u64 0] n = cellsOf (List.replicate n 0) := by
  apply Array.ext'
  rw [toList_madeCells_one]
  simp [cellsOf, List.map_replicate]

/-- The frame: of the blocks of w, none but 'row' has been written. -/
theorem grown_below {w w' : World} (h : Below w.heap.size w w') (row : Option Nat) : w.grownBy w' row := ⟨h.os, h.tape, h.output, h.size, fun i hi _ => h.block i hi⟩
theorem below_grown {w w' : World} (h : w.grownBy w' none) : Below w.heap.size w w' := ⟨h.os, h.tape, h.output, h.size, fun i hi => h.block i hi (by simp)⟩
theorem grown_trans {a b c : World} {row : Option Nat} (h : a.grownBy b row) (k : b.grownBy c row) : a.grownBy c row :=
  ⟨k.os.trans h.os, k.tape.trans h.tape, k.output.trans h.output, Nat.le_trans h.size k.size, fun i hi hn => (k.block i (Nat.lt_of_lt_of_le hi h.size) hn).trans (h.block i hi hn)⟩
theorem grown_drewN {a b : World} {row : Option Nat} (h : a.grownBy b row) (n : Nat) : a.grownBy (b.drewN n) row := ⟨h.os, h.tape, h.output, h.size, h.block⟩
theorem grown_drew {a b : World} {row : Option Nat} (h : a.grownBy b row) : a.grownBy b.drew row := ⟨h.os, h.tape, h.output, h.size, h.block⟩
theorem grown_set {a b : World} {row : Option Nat} (h : a.grownBy b row) {p : Addr} (hp : row = some p.block ∨ a.heap.size ≤ p.block) (u : Value) : a.grownBy (b.setCell p u) row :=
  ⟨h.os, h.tape, h.output, by simpa [World.setCell] using h.size, fun i hi hn => (heap_setCell_other b p i u (by
    rintro rfl
    rcases hp with hp | hp
    · exact hn hp.symm
    · omega)).trans (h.block i hi hn)⟩
theorem grown_alloc {a b : World} {row : Option Nat} (h : a.grownBy b row) (o : Obj) : a.grownBy (b.alloc o) row :=
  ⟨h.os, h.tape, h.output, Nat.le_trans h.size (by simp), fun i hi hn => (Below.heap_alloc b o i (Nat.lt_of_lt_of_le hi h.size)).trans (h.block i hi hn)⟩
theorem below_drewN {B : Nat} {a w : World} (h : Below B a w) (n : Nat) : Below B a (w.drewN n) := ⟨h.os, h.tape, h.output, h.size, h.block⟩
theorem below_trans {a b c : World} (h : Below a.heap.size a b) (k : Below b.heap.size b c) : Below a.heap.size a c := h.trans (k.mono h.size)
theorem below_row {a b c : World} {g : Nat} (h : Below a.heap.size a b) (k : b.grownBy c (some g)) (hg : a.heap.size ≤ g) : Below a.heap.size a c :=
  h.trans ⟨k.os, k.tape, k.output, k.size, fun i hi => k.block i (Nat.lt_of_lt_of_le hi h.size) (by simp; omega)⟩

/-- A slice that a call made, from block B on, at its block's head: it reads as the one form of n. -/
def Own (w : World) (B : Nat) (A : Option Addr) (c n : Nat) : Prop :=
  (n = 0 ∧ A = none ∧ c = 0) ∨ (n ≠ 0 ∧ ∃ g ys, A = some ⟨g, 0, none⟩ ∧ B ≤ g ∧ Row w g ys ∧ ys.length = c ∧ nl n ≤ c ∧ ys.take (nl n) = limbs n ∧ Ok ys)

theorem Own.nums {w : World} {B : Nat} {A : Option Addr} {c n : Nat} (h : Own w B A c n) : Nums w A c (limbs n) := by
  rcases h with ⟨rfl, rfl, rfl⟩ | ⟨_, g, ys, rfl, _, hr, rfl, hl, ht, ho⟩
  · rw [limbs_zero]; exact Nums.nil _ _ _
  · rw [← ht]; exact (hr.nums ho).front _
theorem Own.grown {w w' : World} {B : Nat} {A : Option Addr} {c n : Nat} {row : Option Nat} (h : Own w B A c n) (hg : w.grownBy w' row) (hA : ∀ a, A = some a → some a.block ≠ row) : Own w' B A c n := by
  rcases h with h | ⟨h0, g, ys, rfl, hB, hr, h2⟩
  · exact .inl h
  · exact .inr ⟨h0, g, ys, rfl, hB, hr.grown hg (hA _ rfl), h2⟩
theorem Own.below {w w' : World} {B : Nat} {A : Option Addr} {c n : Nat} (h : Own w B A c n) (hb : Below w.heap.size w w') : Own w' B A c n :=
  h.grown (grown_below hb none) (by simp)
theorem Own.mono {w : World} {B B' : Nat} {A : Option Addr} {c n : Nat} (h : Own w B A c n) (hB : B' ≤ B) : Own w B' A c n := by
  rcases h with h | ⟨h0, g, ys, rfl, hB', h2⟩
  · exact .inl h
  · exact .inr ⟨h0, g, ys, rfl, by omega, h2⟩

/-- The same, in block g. -/
def OwnAt (w : World) (g : Nat) (A : Option Addr) (c n : Nat) : Prop :=
  (n = 0 ∧ A = none ∧ c = 0) ∨ (n ≠ 0 ∧ A = some ⟨g, 0, none⟩ ∧ ∃ ys, Row w g ys ∧ ys.length = c ∧ nl n ≤ c ∧ ys.take (nl n) = limbs n ∧ Ok ys)
theorem OwnAt.own {w : World} {g B : Nat} {A : Option Addr} {c n : Nat} (h : OwnAt w g A c n) (hB : B ≤ g) : Own w B A c n := by
  rcases h with h | ⟨h0, h1, ys, h2⟩
  · exact .inl h
  · exact .inr ⟨h0, g, ys, h1, hB, h2⟩

/-- What a call hands back: the one form of n in new memory; nothing that was there has turned. -/
def Ret (w : World) (n : Nat) (e : Ending) (w' : World) : Prop := ∃ A c, e = .returned (.slice A (nl n) c) ∧ Own w' w.heap.size A c n ∧ Below w.heap.size w w'

theorem used_any (A : Option Addr) (c : Nat) (xs : List Nat) (w : World) (h : Nums w A c xs) (hs : xs.length ≤ 4000000) :
    Calls Tryd.prog 67 #[.slice A xs.length c] w fun e w' => e = .returned (.int .i64 (nl (val xs))) ∧ w = w' := by
  obtain ⟨ho, hc, hcl⟩ := h
  have HO := Lib.hid ho
  have HC := Lib.hid hcl
  clear ho hcl
  go_enter Tryd.func67, Tryd.ntmps67
  go_wp2
  go_loop [3] (fun t => ∃ k : Nat, k ≤ xs.length ∧ t = .int .i64 k ∧ ZeroFrom xs k) (fun t => (intOf t).toNat)
  case atStart => exact ⟨xs.length, Nat.le_refl _, rfl, ZeroFrom.start xs⟩
  case round =>
    obtain ⟨k, hk, rfl, hz⟩ := hrel
    rcases Nat.eq_zero_or_pos k with rfl | hkp
    · go_wp2
      go_ret
      exact ⟨ret_int (by have := hz.done HO.out (by omega) (.inl rfl); omega), rfl⟩
    · obtain ⟨j, rfl⟩ : ∃ j, k = j + 1 := ⟨k - 1, by omega⟩
      obtain ⟨b, off, rfl, hcell⟩ := HC.out (by omega)
      have hcell := hcell j (by omega)
      by_cases hd : dg xs j = 0
      · have hd1 : (((dg xs j : Nat) : Int) == 0) = true := by simp [hd]
        have HD := Lib.hid hd
        clear hd
        go_wp2
        go_round
        case rel => exact ⟨j, by omega, by go_num, hz.down HD.out⟩
        case measure => simp [intOf]
      · have hd1 : (((dg xs j : Nat) : Int) == 0) = false := by simp [hd]
        have HD := Lib.hid hd
        clear hd
        go_wp2
        go_ret
        exact ⟨ret_int (by have := hz.done HO.out (by omega) (.inr HD.out); omega), rfl⟩
end Go.Proofs.YtjlfcnkndndgaaaDoor
