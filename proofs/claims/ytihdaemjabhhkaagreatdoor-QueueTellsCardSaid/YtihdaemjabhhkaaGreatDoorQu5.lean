/-
  A queue's row and the library's heap: Push and Pop. Written by wip/gen/qu5.py.
-/
import Derived.Test.YtihdaemjabhhkaaGreatDoorQu4
namespace Go.Proofs.YtihdaemjabhhkaaGreatDoor
open Go.RowKit Tw Hp

/-- What is neither a queue nor a row of items stays. -/
def QFar (w w' : World) : Prop := ∀ b cs t, t ≠ 108 → t ≠ 110 → Bx w b cs t → Bx w' b cs t
theorem QFar.trans {a b c : World} (h : QFar a b) (k : QFar b c) : QFar a c := fun x cs t h1 h2 hb => k x cs t h1 h2 (h x cs t h1 h2 hb)
theorem QFar.of_below {w w' : World} (h : Below w.heap.size w w') : QFar w w' := fun _ _ _ _ _ hb => hb.below h
theorem QFar.of_sh {w w' : World} {g cap : Nat} {L : List Itm} (h : Sh w w' g) (hr : HRow w g cap L) : QFar w w' := fun b cs t _ ht hb => by
  refine (h.2.block b hb.lt ?_).trans hb
  intro e
  cases e
  obtain ⟨arr, h1, _⟩ := hr
  unfold Bx at hb h1
  rw [hb] at h1
  cases h1
  exact ht rfl
theorem bx_ne {w : World} {b b' : Nat} {cs cs' : Array Value} {t t' : TypeId} (ht : t ≠ t') (h : Bx w b cs t) (h' : Bx w b' cs' t') : b ≠ b' := fun e => by
  subst e
  unfold Bx at h h'
  rw [h] at h'
  cases h'
  exact ht rfl
theorem own_ne {w : World} {B n size b : Nat} {e t : TypeId} {v : Value} {xs : List Value} {cs : Array Value} (ho : OwnR w B e size v n xs) (ht : t ≠ e) (hb : Bx w b cs t) : v.ownBlock ≠ some b := by
  obtain ⟨_, ⟨rfl, _⟩ | ⟨g, cap, cur, rfl, _, h4, _⟩⟩ := ho
  · simp [Value.ownBlock]
  · intro h
    simp only [Value.ownBlock, Option.some.injEq] at h
    exact bx_ne ht hb h4 h.symm
theorem far_own {w w' : World} {B n size b : Nat} {e t : TypeId} {v : Value} {xs : List Value} {cs : Array Value} (ho : OwnR w B e size v n xs) (ht : t ≠ e) (hg : w.grownBy w' v.ownBlock) (hb : Bx w b cs t) : Bx w' b cs t :=
  (hg.block b hb.lt (Ne.symm (own_ne ho ht hb))).trans hb
theorem own_below {w w' : World} {B n size : Nat} {e : TypeId} {v : Value} {xs : List Value} (ho : OwnR w B e size v n xs) (hg : w.grownBy w' v.ownBlock) (hB : B ≤ w.heap.size) : Below B w w' :=
  ⟨hg.os, hg.tape, hg.output, hg.size, fun i hi => hg.block i (Nat.lt_of_lt_of_le hi hB) (by
    obtain ⟨_, ⟨rfl, _⟩ | ⟨g, cap, cur, rfl, h3, _⟩⟩ := ho
    · simp [Value.ownBlock]
    · simp [Value.ownBlock]; omega)⟩
theorem OwnR.form {w : World} {B n size : Nat} {e : TypeId} {v : Value} {xs : List Value} (h : OwnR w B e size v n xs) (hn : n ≠ 0) : ∃ H cap, v = .slice H n cap := by
  obtain ⟨_, ⟨_, h2⟩ | ⟨g, cap, cur, rfl, _⟩⟩ := h
  · exact absurd h2 hn
  · exact ⟨_, _, rfl⟩
theorem OwnR.block {w : World} {B n size cap : Nat} {e : TypeId} {H : Option Addr} {xs : List Value} (h : OwnR w B e size (.slice H n cap) n xs) (hn : n ≠ 0) : ∃ g, H = some ⟨g, 0, none⟩ := by
  obtain ⟨_, ⟨_, h2⟩ | ⟨g, cap, cur, h3, _⟩⟩ := h
  · exact absurd h2 hn
  · cases h3; exact ⟨_, rfl⟩
theorem cs_one (x : Itm) : ∀ u ∈ x.cs, u.oneCell' = true := by intro u hu; simp [Itm.cs] at hu; rcases hu with rfl | rfl | rfl | rfl | rfl | rfl | rfl | rfl <;> rfl
theorem cs_nou (x : Itm) : ∀ u ∈ x.cs, ∀ n, u ≠ .int .u64 n := by intro u hu n; simp [Itm.cs] at hu; rcases hu with rfl | rfl | rfl | rfl | rfl | rfl | rfl | rfl <;> (intro e; cases e)
theorem lit_news (W : World) (x : Itm) : ∀ j u, x.cs[j]? = some u → (W.drew.alloc (.cells #[.bool x.s, .slice x.A x.l x.c, .bool x.s', .slice x.A' x.l' x.c', .int .i64 x.dep, .int .i64 x.num, .slice x.F x.fl x.fc, .int .i64 x.turn] 110)).cell? ((⟨W.heap.size, 0, none⟩ : Addr).add j) = some u := fun j u hu => by
  have h1 : Bx (W.drew.alloc (.cells #[.bool x.s, .slice x.A x.l x.c, .bool x.s', .slice x.A' x.l' x.c', .int .i64 x.dep, .int .i64 x.num, .slice x.F x.fl x.fc, .int .i64 x.turn] 110)) W.heap.size #[.bool x.s, .slice x.A x.l x.c, .bool x.s', .slice x.A' x.l' x.c', .int .i64 x.dep, .int .i64 x.num, .slice x.F x.fl x.fc, .int .i64 x.turn] 110 := Bx.new W.drew _ _
  have e : (⟨W.heap.size, 0, none⟩ : Addr).add j = ⟨W.heap.size, j, none⟩ := by
    unfold Addr.add
    split <;> simp_all
  rw [e]
  exact h1.cell j u (by rw [List.getElem?_toArray]; exact hu)
theorem infoItem : (Tryz.prog.info? 110).map (fun i => (i.zero, i.size, i.bytes)) = some (some (.agg #[.bool false, .slice none 0 0, .bool false, .slice none 0 0, .int .i64 0, .int .i64 0, .slice none 0 0, .int .i64 0]), 8, 112) := by kernel_rfl
theorem zero_nou : NoU (Value.cells (.agg #[.bool false, .slice none 0 0, .bool false, .slice none 0 0, .int .i64 0, .int .i64 0, .slice none 0 0, .int .i64 0])) := by
  intro u hu n
  simp [Value.cells] at hu
  rcases hu with rfl | rfl | rfl | rfl | rfl | rfl | rfl | rfl <;> (intro e; cases e)
theorem ta_ok (v : Value) (w : World) : (Instr.typeAssert (.iface 110 v) 20 110 true).run Tryz.prog w = .ok (.tuple #[v, .bool true]) w := by kernel_rfl
theorem ta_is (v : Value) (w : World) : (Instr.typeAssert (.iface 110 v) 20 110 false).run Tryz.prog w = .ok v w := by kernel_rfl
/-- One more behind the row. -/
def NPush (w : World) (qb B n : Nat) (c0 c2 : Value) (L : List Itm) (e : Ending) (w' : World) : Prop :=
  e = .returned (.tuple #[]) ∧ ∃ H cap, Bx w' qb #[c0, .slice H (n + 1) cap, c2] 108 ∧ OwnR w' B 110 8 (.slice H (n + 1) cap) (n + 1) (row L) ∧ QFar w w' ∧ K64 w w' ∧ Below B w w'
set_option maxRecDepth 100000 in
set_option maxHeartbeats 4000000 in
theorem npush_q {w : World} {qb B n cap : Nat} {H : Option Addr} {L : List Itm} {c0 c2 : Value} (x : Itm) (hq : Bx w qb #[c0, .slice H n cap, c2] 108) (ho : OwnR w B 110 8 (.slice H n cap) n (row L)) (hn : n ≤ 1000000) (hB : B ≤ qb) :
    Calls Tryz.prog 249 #[.pointer (some ⟨qb, 1, none⟩), .iface 110 (.agg #[.bool x.s, .slice x.A x.l x.c, .bool x.s', .slice x.A' x.l' x.c', .int .i64 x.dep, .int .i64 x.num, .slice x.F x.fl x.fc, .int .i64 x.turn])] w (NPush w qb B n c0 c2 (L ++ [x])) := by
  obtain ⟨i0, hi, hz0, hz1, hz2⟩ := info_parts infoItem
  have hBw : B ≤ w.heap.size := by have := hq.lt; omega
  obtain ⟨W, hW, x4, hB4⟩ := boxes1 w #[.bool x.s, .slice x.A x.l x.c, .bool x.s', .slice x.A' x.l' x.c', .int .i64 x.dep, .int .i64 x.num, .slice x.F x.fl x.fc, .int .i64 x.turn] 110
  have HQ := Lib.hid (hq.below hB4)
  have HO := Lib.hid (ho.below hB4)
  have p1 := HQ.out.cell 1 (.slice H n cap) rfl
  have r0 := x4.cell 0 (.bool x.s) rfl
  have r1 := x4.cell 1 (.slice x.A x.l x.c) rfl
  have r2 := x4.cell 2 (.bool x.s') rfl
  have r3 := x4.cell 3 (.slice x.A' x.l' x.c') rfl
  have r4 := x4.cell 4 (.int .i64 x.dep) rfl
  have r5 := x4.cell 5 (.int .i64 x.num) rfl
  have r6 := x4.cell 6 (.slice x.F x.fl x.fc) rfl
  have r7 := x4.cell 7 (.int .i64 x.turn) rfl
  have ta := ta_ok (.agg #[.bool x.s, .slice x.A x.l x.c, .bool x.s', .slice x.A' x.l' x.c', .int .i64 x.dep, .int .i64 x.num, .slice x.F x.fl x.fc, .int .i64 x.turn])
  clear hq ho x4
  go_enter Tryz.func249, Tryz.ntmps249
  go_wp2_with fail
  rw [← hW]
  clear hW
  (try simp only [List.append_eq, List.cons_append, List.nil_append])
  refine wp_region_plan (.pure 0 (.pure 1 (.pure 2 (.take 3 (.take 4 (.only 5 (.only 6 (.pure 7 (.only 8 .done))))))))) [6, 8] (fun w' => w'.cell? ⟨qb, 1, none⟩ = some (.slice H n cap) ∧ w'.cell? ⟨w.heap.size, 0, none⟩ = some (.bool x.s) ∧ w'.cell? ⟨w.heap.size, 1, none⟩ = some (.slice x.A x.l x.c) ∧ w'.cell? ⟨w.heap.size, 2, none⟩ = some (.bool x.s') ∧ w'.cell? ⟨w.heap.size, 3, none⟩ = some (.slice x.A' x.l' x.c') ∧ w'.cell? ⟨w.heap.size, 4, none⟩ = some (.int .i64 x.dep) ∧ w'.cell? ⟨w.heap.size, 5, none⟩ = some (.int .i64 x.num) ∧ w'.cell? ⟨w.heap.size, 6, none⟩ = some (.slice x.F x.fl x.fc) ∧ w'.cell? ⟨w.heap.size, 7, none⟩ = some (.int .i64 x.turn)) (by kernel_rfl) (by kernel_rfl) ⟨p1, r0, r1, r2, r3, r4, r5, r6, r7⟩ ?_
  refine wpPlan_pure (o := ⟨some 12, _, _, _, _, _⟩) (v := ?_) rfl rfl (fun w' => ?_) ?_
  rotate_left
  · go_simp <;> with_reducible rfl
  try simp only [Act.put, List.setIfInBounds_toArray, List.set_cons_zero, List.set_cons_succ]
  refine wpPlan_pure (o := ⟨some 13, _, _, _, _, _⟩) (v := ?_) rfl rfl (fun w' => ?_) ?_
  rotate_left
  · go_simp <;> with_reducible rfl
  try simp only [Act.put, List.setIfInBounds_toArray, List.set_cons_zero, List.set_cons_succ]
  refine wpPlan_pure (o := ⟨some 14, _, _, _, _, _⟩) (v := ?_) rfl rfl (fun w' => ?_) ?_
  rotate_left
  · go_simp <;> with_reducible rfl
  try simp only [Act.put, List.setIfInBounds_toArray, List.set_cons_zero, List.set_cons_succ]
  refine wpPlan_take (o := ⟨some 15, _, _, _, _, _⟩) (v := ?_) rfl rfl (fun w' hS => ?_) ?_
  rotate_left
  · obtain ⟨p1, r0, r1, r2, r3, r4, r5, r6, r7⟩ := hS; go_simp <;> with_reducible rfl
  try simp only [Act.put, List.setIfInBounds_toArray, List.set_cons_zero, List.set_cons_succ]
  refine wpPlan_take (o := ⟨some 16, _, _, _, _, _⟩) (v := ?_) rfl rfl (fun w' hS => ?_) ?_
  rotate_left
  · obtain ⟨p1, r0, r1, r2, r3, r4, r5, r6, r7⟩ := hS; go_simp <;> with_reducible rfl
  try simp only [Act.put, List.setIfInBounds_toArray, List.set_cons_zero, List.set_cons_succ]
  refine wpPlan_call (o := ⟨some 17, _, _, _, _, _⟩) rfl rfl (fun K hK => ?_)
  go_simp
  refine hK.out _ _ ⟨cell_al p1, cell_al r0, cell_al r1, cell_al r2, cell_al r3, cell_al r4, cell_al r5, cell_al r6, cell_al r7⟩ (fun _ => ?_)
  try simp only [Act.put, List.setIfInBounds_toArray, List.set_cons_zero, List.set_cons_succ]
  clear hK K
  refine wpPlan_late (o := ⟨some 18, _, _, _, _, _⟩) rfl rfl (by decide) (fun K hK => ?_)
  have news : ∀ j u, x.cs[j]? = some u → (W.drew.alloc (.cells #[.bool x.s, .slice x.A x.l x.c, .bool x.s', .slice x.A' x.l' x.c', .int .i64 x.dep, .int .i64 x.num, .slice x.F x.fl x.fc, .int .i64 x.turn] 110)).cell? ((⟨W.heap.size, 0, none⟩ : Addr).add j) = some u := lit_news W x
  refine wp_append_or (.tmp 15) (.tmp 17) 106 rfl B 110 i0 _ 8 112 Tryz.underlying106 hi hz0 hz1 hz2 rfl zero_nou (.slice H n cap) n (row L) rfl (HO.out.below (by go_grown)) ⟨W.heap.size, 0, none⟩ 1 1 x.cs rfl rfl news (cs_one x) (cs_nou x) (by omega) (by unfold maxLen; omega) (by omega) (by have := hB; have := HQ.out.lt; simp; omega) ?_
  intro v' w1 ho1 hg1 k1
  refine hK.out _ _ ?_
  try simp only [Act.put, List.setIfInBounds_toArray, List.set_cons_zero, List.set_cons_succ]
  clear hK K news
  obtain ⟨H', cap', rfl⟩ := ho1.form (by omega)
  have q1 : Bx w1 qb #[c0, .slice H n cap, c2] 108 := far_own (HO.out.below (by go_grown)) (by decide) hg1 (HQ.out.below (by go_grown))
  have c1 := q1.cell 1 (.slice H n cap) rfl
  have f1 := q1.frozen 1
  have l1 := q1.lt
  refine wpPlan_pure (o := ⟨some 19, _, _, _, _, _⟩) (v := ?_) rfl rfl (fun w' => ?_) ?_
  rotate_left
  · go_simp <;> with_reducible rfl
  try simp only [Act.put, List.setIfInBounds_toArray, List.set_cons_zero, List.set_cons_succ]
  refine wpPlan_late (o := ⟨none, _, _, _, _, _⟩) rfl rfl (by decide) (fun K hK => ?_)
  go_simp
  refine hK.out _ _ ?_
  try simp only [Act.put, List.setIfInBounds_toArray, List.set_cons_zero, List.set_cons_succ]
  clear hK K
  refine wpPlan_done ?_
  go_wp2_with fail
  go_end0
  have bw : Below W.heap.size W (W.drew.alloc (.cells #[.bool x.s, .slice x.A x.l x.c, .bool x.s', .slice x.A' x.l' x.c', .int .i64 x.dep, .int .i64 x.num, .slice x.F x.fl x.fc, .int .i64 x.turn] 110)) := by go_grown
  refine ⟨rfl, H', cap', q1.set 1 _, ?_, ?_, ?_, ?_⟩
  · rw [row_snoc]; exact ho1.kept (grown_set (grownBy_refl w1 (some qb)) (.inl rfl) _) (.inr (own_ne ho1 (by decide) q1))
  · intro b cs t ht1 ht2 hb; exact (far_own (HO.out.below bw) ht2 hg1 ((hb.below hB4).below bw)).far (bx_ne ht1 (far_own (HO.out.below bw) ht2 hg1 ((hb.below hB4).below bw)) q1) _
  · exact ((K64.below (below_trans hB4 bw)).trans k1).trans (K64.set c1 (fun _ e => by cases e) _)
  · exact (((below_trans hB4 bw).mono hBw).trans (own_below (HO.out.below bw) hg1 (by have := hB4.size; have := bw.size; omega))).setCell hB _
end Go.Proofs.YtihdaemjabhhkaaGreatDoor
