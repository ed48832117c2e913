/-
  Queues: made or not, refusals, New, Len, Least.
-/
import Derived.Test.YtihdaemjabhhkaaGreatDoorQu7
import Derived.LaidEqlPtr
namespace Go.Proofs.YtihdaemjabhhkaaGreatDoor
open Go.RowKit Tw Hp

theorem infoQ : (Tryz.prog.info? 108).map (fun i => i.size) = some 3 := by kernel_rfl
theorem eql_self (w : World) (a : Addr) : (binOp .eql 23 (.pointer (some a)) (.pointer (some a))).run Tryz.prog w = .ok (.bool true) w := by
  have hi := infoQ
  cases h : Tryz.prog.info? 108 with
  | none => rw [h] at hi; cases hi
  | some j => exact run_eql_ptr_same w a Tryz.underlying23 h
theorem eql_none (w : World) (a : Addr) : (binOp .eql 23 (.pointer none) (.pointer (some a))).run Tryz.prog w = .ok (.bool false) w := by kernel_rfl
set_option maxRecDepth 100000 in
set_option maxHeartbeats 4000000 in
theorem made_nil {w : World} : Calls Tryz.prog 65 #[.pointer none] w fun e w' => e = .returned (.bool false) ∧ w = w' := by
  go_enter Tryz.func65, Tryz.ntmps65
  go_wp2_with fail
  go_ret
  exact ⟨rfl, rfl⟩
set_option maxRecDepth 100000 in
set_option maxHeartbeats 4000000 in
theorem made_zero {w : World} {zb : Nat} {v1 v2 : Value} (h : Bx w zb #[.pointer none, v1, v2] 108) : Calls Tryz.prog 65 #[.pointer (some ⟨zb, 0, none⟩)] w fun e w' => e = .returned (.bool false) ∧ w = w' := by
  have c0 := h.cell 0 (.pointer none) rfl
  have en := eql_none w ⟨zb, 0, none⟩
  clear h
  go_enter Tryz.func65, Tryz.ntmps65
  go_wp2_with fail
  go_ret
  exact ⟨rfl, rfl⟩
set_option maxRecDepth 100000 in
set_option maxHeartbeats 4000000 in
theorem made_yes {w : World} {qb : Nat} {v1 v2 : Value} (h : Bx w qb #[.pointer (some ⟨qb, 0, none⟩), v1, v2] 108) : Calls Tryz.prog 65 #[.pointer (some ⟨qb, 0, none⟩)] w fun e w' => e = .returned (.bool true) ∧ w = w' := by
  have c0 := h.cell 0 (.pointer (some ⟨qb, 0, none⟩)) rfl
  have en := eql_self w ⟨qb, 0, none⟩
  clear h
  go_enter Tryz.func65, Tryz.ntmps65
  go_wp2_with fail
  go_ret
  exact ⟨rfl, rfl⟩
/-- A missing queue. -/
def NoQ (w : World) (v : Value) : Prop := v = .pointer none ∨ ∃ zb v1 v2, v = .pointer (some ⟨zb, 0, none⟩) ∧ Bx w zb #[.pointer none, v1, v2] 108
theorem NoQ.below {w w' : World} {v : Value} (h : NoQ w v) (hb : Below w.heap.size w w') : NoQ w' v := by
  rcases h with h | ⟨zb, v1, v2, h1, h2⟩
  · exact .inl h
  · exact .inr ⟨zb, v1, v2, h1, h2.below hb⟩
theorem made_no {w : World} {v : Value} (h : NoQ w v) : Calls Tryz.prog 65 #[v] w fun e w' => e = .returned (.bool false) ∧ w = w' := by
  rcases h with rfl | ⟨zb, v1, v2, rfl, h2⟩
  · exact made_nil
  · exact made_zero h2
set_option maxRecDepth 100000 in
set_option maxHeartbeats 4000000 in
theorem len_no {w : World} {v : Value} (h : NoQ w v) : Calls Tryz.prog 18 #[v] w fun e w' => e = .returned (.int .i64 0) ∧ w = w' := by
  have H := Lib.hid h
  clear h
  go_enter Tryz.func18, Tryz.ntmps18
  go_wp2_with fail
  with_reducible refine (made_no H.out).mono ?_
  rintro e w1 ⟨rfl, rfl⟩
  go_wp2_with fail
  go_ret
  exact ⟨rfl, rfl⟩
set_option maxRecDepth 100000 in
set_option maxHeartbeats 4000000 in
theorem len_yes {w : World} {qb n cap : Nat} {H : Option Addr} {v2 : Value} (h : Bx w qb #[.pointer (some ⟨qb, 0, none⟩), .slice H n cap, v2] 108) :
    Calls Tryz.prog 18 #[.pointer (some ⟨qb, 0, none⟩)] w fun e w' => e = .returned (.int .i64 (n : Int)) ∧ w = w' := by
  have HB := Lib.hid h
  have c1 := h.cell 1 (.slice H n cap) rfl
  clear h
  go_enter Tryz.func18, Tryz.ntmps18
  go_wp2_with fail
  with_reducible refine (made_yes HB.out).mono ?_
  rintro e w1 ⟨rfl, rfl⟩
  go_wp2_with fail
  go_ret
  exact ⟨rfl, rfl⟩
set_option maxRecDepth 100000 in
set_option maxHeartbeats 4000000 in
theorem least_no {w : World} {v : Value} (h : NoQ w v) : Calls Tryz.prog 15 #[v] w fun e w' => e = .returned (.tuple #[.agg #[.bool false, .slice none 0 0, .bool false, .slice none 0 0], .bool false]) ∧ Below w.heap.size w w' := by
  obtain ⟨W, hW, x0, hB⟩ := boxes1 w #[.bool false, .slice none 0 0, .bool false, .slice none 0 0] 33
  have H := Lib.hid (h.below hB)
  have p0 := x0.cell 0 (.bool false) rfl
  have p1 := x0.cell 1 (.slice none 0 0) rfl
  have p2 := x0.cell 2 (.bool false) rfl
  have p3 := x0.cell 3 (.slice none 0 0) rfl
  have f0 := x0.frozen 0
  have f1 := x0.frozen 1
  have f2 := x0.frozen 2
  have f3 := x0.frozen 3
  have l0 := x0.lt
  clear h x0
  go_enter Tryz.func15, Tryz.ntmps15
  go_wp2_with fail
  rw [← hW]
  clear hW
  with_reducible refine (made_no H.out).mono ?_
  rintro e w1 ⟨rfl, rfl⟩
  go_wp2_with fail
  (try simp only [Exit.inBlock, Exit.then])
  refine bodyPost_ret (by simp [results, Tryz.results15, go_sem, p0, p1, p2, p3]; try rfl) rfl ?_
  exact ⟨rfl, (((hB.setCell (Nat.le_refl _) _).setCell (Nat.le_refl _) _).setCell (Nat.le_refl _) _).setCell (Nat.le_refl _) _⟩
set_option maxRecDepth 100000 in
set_option maxHeartbeats 4000000 in
theorem pop_no {w : World} {v : Value} (h : NoQ w v) : Calls Tryz.prog 9 #[v] w fun e w' => e = .returned (.tuple #[.agg #[.bool false, .slice none 0 0, .bool false, .slice none 0 0, .int .i64 0, .int .i64 0, .slice none 0 0], .bool false]) ∧ Below w.heap.size w w' := by
  obtain ⟨W, hW, x0, hB⟩ := boxes1 w #[.bool false, .slice none 0 0, .bool false, .slice none 0 0, .int .i64 0, .int .i64 0, .slice none 0 0] 36
  have H := Lib.hid (h.below hB)
  have p0 := x0.cell 0 (.bool false) rfl
  have p1 := x0.cell 1 (.slice none 0 0) rfl
  have p2 := x0.cell 2 (.bool false) rfl
  have p3 := x0.cell 3 (.slice none 0 0) rfl
  have p4 := x0.cell 4 (.int .i64 0) rfl
  have p5 := x0.cell 5 (.int .i64 0) rfl
  have p6 := x0.cell 6 (.slice none 0 0) rfl
  have f0 := x0.frozen 0
  have f1 := x0.frozen 1
  have f2 := x0.frozen 2
  have f3 := x0.frozen 3
  have f4 := x0.frozen 4
  have f5 := x0.frozen 5
  have f6 := x0.frozen 6
  have l0 := x0.lt
  clear h x0
  go_enter Tryz.func9, Tryz.ntmps9
  go_wp2_with fail
  rw [← hW]
  clear hW
  with_reducible refine (made_no H.out).mono ?_
  rintro e w1 ⟨rfl, rfl⟩
  go_wp2_with fail
  (try simp only [Exit.inBlock, Exit.then])
  refine bodyPost_ret (by simp [results, Tryz.results9, go_sem, p0, p1, p2, p3, p4, p5, p6]; try rfl) rfl ?_
  exact ⟨rfl, ((((((hB.setCell (Nat.le_refl _) _).setCell (Nat.le_refl _) _).setCell (Nat.le_refl _) _).setCell (Nat.le_refl _) _).setCell (Nat.le_refl _) _).setCell (Nat.le_refl _) _).setCell (Nat.le_refl _) _⟩
set_option maxRecDepth 100000 in
set_option maxHeartbeats 4000000 in
theorem push_no {w : World} {v : Value} {c0 c1 c2 c3 c4 c5 c6 : Value} (h : NoQ w v) : Calls Tryz.prog 13 #[v, .agg #[c0, c1, c2, c3, c4, c5, c6]] w fun e w' => e = .returned (.int .i64 1) ∧ Below w.heap.size w w' := by
  obtain ⟨W, hW, x0, hB⟩ := boxes1 w #[c0, c1, c2, c3, c4, c5, c6] 36
  have H := Lib.hid (h.below hB)
  clear h x0
  go_enter Tryz.func13, Tryz.ntmps13
  go_wp2_with fail
  rw [← hW]
  clear hW
  with_reducible refine (made_no H.out).mono ?_
  rintro e w1 ⟨rfl, rfl⟩
  go_wp2_with fail
  go_ret
  exact ⟨rfl, hB⟩
/-- The pointer to itself. -/
abbrev self (qb : Nat) : Value := .pointer (some ⟨qb, 0, none⟩)
set_option maxRecDepth 100000 in
set_option maxHeartbeats 4000000 in
theorem new_q {w : World} : Calls Tryz.prog 7 #[] w fun e w' => ∃ qb, e = .returned (.pointer (some ⟨qb, 0, none⟩)) ∧ w.heap.size ≤ qb ∧ QH w' qb w.heap.size (.pointer (some ⟨qb, 0, none⟩)) (.int .i64 0) [] ∧ Below w.heap.size w w' := by
  go_enter Tryz.func7, Tryz.ntmps7
  go_wp2_with fail
  go_ret
  have h1 := Bx.new w #[.pointer (some ⟨w.heap.size, 0, none⟩), .slice none 0 0, .int .i64 0] 108
  refine ⟨w.heap.size, rfl, Nat.le_refl _, ⟨⟨none, 0, h1, OwnR.nil _ _ _ _⟩, (fun k h0 hk => (by simp at hk)), (fun x hx => (by cases hx)), Nat.le_refl _, by simp⟩, by go_grown⟩
end Go.Proofs.YtihdaemjabhhkaaGreatDoor
