/-
  QueueOrders: the walk. Written by wip/gen/qo2.py.
-/
import Derived.Test.YtihdaemjabhhkaaGreatDoorQo1
namespace Go.Proofs.YtihdaemjabhhkaaGreatDoor
open Go.RowKit Tw Hp

theorem NdAt.at {w w' : World} {b off i : Nat} {x : Itm} (h : NdAt w b off i x) (hb : Below w.heap.size w w') (j : Nat) (c : Value) (hj : j < 7) (hx : x.cs[j]? = some c) : w'.cell? ⟨b, off + i * 7 + j, none⟩ = some c :=
  (hb.cell (World.block_lt_of_cell? w _ (h j c hj hx))).trans (h j c hj hx)
theorem InI.below {w w' : World} {s : Bool} {A : Option Addr} {l c : Nat} (h : InI w s A l c) (hb : Below w.heap.size w w') : InI w' s A l c := by
  obtain ⟨⟨z, h1⟩, h2⟩ := h; exact ⟨⟨z, h1.below hb⟩, h2⟩
/-- A state of the first loop. -/
def O1 (w : World) (qb n gk : Nat) (s4 s5 s22 : Value) (wr : World) : Prop :=
  ∃ k L, k ≤ n ∧ n - k = gk ∧ List.length L ≤ k ∧ s4 = .int .i64 (sumN L) ∧ s5 = .int .i64 (L.length : Int) ∧ s22 = .int .i64 (k : Int) ∧
    QH wr qb w.heap.size (.pointer (some ⟨qb, 0, none⟩)) (.int .i64 (L.length : Int)) L ∧ Below w.heap.size w wr
set_option maxRecDepth 100000 in
set_option maxHeartbeats 4000000 in
theorem pop_e {w : World} {qb B : Nat} {c2 : Value} (h : QH w qb B (.pointer (some ⟨qb, 0, none⟩)) c2 []) : Calls Tryz.prog 9 #[.pointer (some ⟨qb, 0, none⟩)] w fun e w' => e = .returned (.tuple #[.agg #[.bool false, .slice none 0 0, .bool false, .slice none 0 0, .int .i64 0, .int .i64 0, .slice none 0 0], .bool false]) ∧ Below w.heap.size w w' := by
  obtain ⟨W, hW, x0, hB⟩ := boxes1 w #[.bool false, .slice none 0 0, .bool false, .slice none 0 0, .int .i64 0, .int .i64 0, .slice none 0 0] 36
  obtain ⟨H, cap, hq, _⟩ := h.at_
  have HQ := Lib.hid (hq.below hB)
  have c1 := HQ.out.cell 1 (.slice H 0 cap) rfl
  have p0 := x0.cell 0 (.bool false) rfl
  have p1 := x0.cell 1 (.slice none 0 0) rfl
  have p2 := x0.cell 2 (.bool false) rfl
  have p3 := x0.cell 3 (.slice none 0 0) rfl
  have p4 := x0.cell 4 (.int .i64 0) rfl
  have p5 := x0.cell 5 (.int .i64 0) rfl
  have p6 := x0.cell 6 (.slice none 0 0) rfl
  have f0 := x0.frozen 0
  have f1 := x0.frozen 1
  have f2 := x0.frozen 2
  have f3 := x0.frozen 3
  have f4 := x0.frozen 4
  have f5 := x0.frozen 5
  have f6 := x0.frozen 6
  have l0 := x0.lt
  clear h x0 hq
  go_enter Tryz.func9, Tryz.ntmps9
  go_wp2_with fail
  rw [← hW]
  clear hW
  with_reducible refine (made_yes HQ.out).mono ?_
  rintro e w1 ⟨rfl, rfl⟩
  go_wp2_with fail
  (try simp only [Exit.inBlock, Exit.then])
  refine bodyPost_ret (by simp [results, Tryz.results9, go_sem, p0, p1, p2, p3, p4, p5, p6]; try rfl) rfl ?_
  exact ⟨rfl, ((((((hB.setCell (Nat.le_refl _) _).setCell (Nat.le_refl _) _).setCell (Nat.le_refl _) _).setCell (Nat.le_refl _) _).setCell (Nat.le_refl _) _).setCell (Nat.le_refl _) _).setCell (Nat.le_refl _) _⟩
theorem rz (w : World) : R w false none 0 0 false none 0 0 0 20 := ⟨0, 0, i_none w false, i_none w false, by rw [if_pos rfl, qof_one]; rfl, by omega, by omega⟩
/-- A state of the second loop: the last one told is x. -/
def O2 (w : World) (qb b7 N gk : Nat) (s4 s8 : Value) (wr : World) : Prop :=
  ∃ (i : Nat) (L : List Itm) (x : Itm), i + L.length = N ∧ L.length = gk ∧ s4 = .int .i64 (sumN L) ∧ s8 = .int .i64 (i : Int) ∧
    QH wr qb w.heap.size (.pointer (some ⟨qb, 0, none⟩)) (.int .i64 (N : Int)) L ∧ Bx wr b7 #[.bool x.s, .slice x.A x.l x.c, .bool x.s', .slice x.A' x.l' x.c', .int .i64 x.dep, .int .i64 x.num, .slice x.F x.fl x.fc] 36 ∧ R wr x.s x.A x.c x.l x.s' x.A' x.c' x.l' x.q 20 ∧ (0 < i → ∀ y ∈ L, itLt y x = false) ∧ Below w.heap.size w wr
/-- What the order says of two that follow each other. -/
theorem next_ok {x y : Itm} (h : itLt y x = false) : ¬ 0 < cmpQ x.q y.q ∧ (cmpQ x.q y.q = 0 → ¬ x.dep < y.dep ∧ (x.dep = y.dep → ¬ y.num < x.num)) := by
  rw [Bool.eq_false_iff, Ne, itLt_iff] at h
  refine ⟨fun h0 => h (.inl ?_), fun h0 => ?_⟩
  · unfold cmpQ at h0
    rcases rat_tri x.q y.q with e | e | e
    · rw [if_pos e] at h0; omega
    · rw [if_neg (by rw [e]; exact Rat.lt_irrefl), if_pos e] at h0; omega
    · exact e
  · have e := (cmpQ_eq _ _).1 h0
    refine ⟨fun h1 => h (.inr ⟨e.symm, .inl h1⟩), fun h1 h2 => h (.inr ⟨e.symm, .inr ⟨h1.symm, .inl h2⟩⟩)⟩
end Go.Proofs.YtihdaemjabhhkaaGreatDoor
