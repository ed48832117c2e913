/-
  Queues: Least and Pop of a queue that has nodes. Written by wip/gen/qu11.py.
-/
import Derived.Test.YtihdaemjabhhkaaGreatDoorQu10
namespace Go.Proofs.YtihdaemjabhhkaaGreatDoor
open Go.RowKit Tw Hp

/-- The bound of the first one. -/
def QLeast (w : World) (L : List Itm) (e : Ending) (w' : World) : Prop :=
  ∃ x, e = .returned (.tuple #[.agg #[.bool x.s, .slice x.A x.l x.c, .bool x.s', .slice x.A' x.l' x.c'], .bool true]) ∧ ix L 0 = x ∧ R w' x.s x.A x.c x.l x.s' x.A' x.c' x.l' x.q 20 ∧ Below w.heap.size w w'
set_option maxRecDepth 100000 in
set_option maxHeartbeats 4000000 in
theorem least_q {w : World} {qb B : Nat} {L : List Itm} {c2 : Value} (h : QH w qb B (.pointer (some ⟨qb, 0, none⟩)) c2 L) (hn0 : 0 < L.length) :
    Calls Tryz.prog 15 #[.pointer (some ⟨qb, 0, none⟩)] w (QLeast w L) := by
  obtain ⟨⟨H, cap, hq, ho⟩, hh, hok, hb, hs⟩ := h
  obtain ⟨n, hn⟩ : ∃ n, n = L.length := ⟨_, rfl⟩
  rw [← hn] at hq ho
  obtain ⟨g, rfl⟩ : ∃ g, H = some ⟨g, 0, none⟩ := ho.block (by omega)
  obtain ⟨hr, hl, hBg⟩ := ho.hrow
  obtain ⟨x, hx⟩ : ∃ x, ix L 0 = x := ⟨_, rfl⟩
  have IT := hr.it (i := 0) (a := x) (by omega) hx
  have rx : R w x.s x.A x.c x.l x.s' x.A' x.c' x.l' x.q 20 := by rw [← hx, ix_get (by omega)]; exact hok _ (List.getElem_mem _)
  obtain ⟨W, hW, x0, hB⟩ := boxes1 w #[.bool false, .slice none 0 0, .bool false, .slice none 0 0] 33
  have HQ := Lib.hid (hq.below hB)
  replace IT := IT.below hB
  have r0 : W.cell? ⟨g, 0, none⟩ = some (.bool x.s) := by simpa using IT.at 0 (.bool x.s) rfl
  have r1 : W.cell? ⟨g, 1, none⟩ = some (.slice x.A x.l x.c) := by simpa using IT.at 1 (.slice x.A x.l x.c) rfl
  have r2 : W.cell? ⟨g, 2, none⟩ = some (.bool x.s') := by simpa using IT.at 2 (.bool x.s') rfl
  have r3 : W.cell? ⟨g, 3, none⟩ = some (.slice x.A' x.l' x.c') := by simpa using IT.at 3 (.slice x.A' x.l' x.c') rfl
  have z0 := x0.cell 0 (.bool false) rfl
  have z1 := x0.cell 1 (.slice none 0 0) rfl
  have z2 := x0.cell 2 (.bool false) rfl
  have z3 := x0.cell 3 (.slice none 0 0) rfl
  have f0 := x0.frozen 0
  have f1 := x0.frozen 1
  have f2 := x0.frozen 2
  have f3 := x0.frozen 3
  have y0 := x0.lt
  have c1 := HQ.out.cell 1 (.slice (some ⟨g, 0, none⟩) n cap) rfl
  have g1 : ((n : Int) == 0) = false := by simp; omega
  have g2 : (0 : Int) < (n : Int) := by omega
  have g3 : 0 < n := by omega
  have HRX := Lib.hid (rx.below hB)
  have HXX := Lib.hid hx
  have X0 := Lib.hid x0
  clear hq ho hr hl hh hok IT rx x0 hx hn
  go_enter Tryz.func15, Tryz.ntmps15
  go_wp2_with fail
  rw [← hW]
  clear hW
  with_reducible refine (made_yes HQ.out).mono ?_
  rintro e w1 ⟨rfl, rfl⟩
  go_wp2_with fail
  (try simp only [Exit.inBlock, Exit.then])
  refine bodyPost_ret (by simp [results, Tryz.results15, go_sem, z0, z1, z2, z3]; try rfl) rfl ?_
  obtain ⟨V, hV, X1, kk, far, bel⟩ := store4 (.bool x.s) (.slice x.A x.l x.c) (.bool x.s') (.slice x.A' x.l' x.c') X0.out (fun _ e => by cases e) (fun _ e => by cases e) (fun _ e => by cases e) (fun _ e => by cases e)
  rw [← hV]
  exact ⟨x, rfl, HXX.out, HRX.out.k kk, bel w.heap.size w (Nat.le_refl _) hB⟩
/-- The first one is out. -/
def QPop (w : World) (qb B : Nat) (c2 : Value) (L : List Itm) (e : Ending) (w' : World) : Prop :=
  ∃ (x : Itm) (L' : List Itm), e = .returned (.tuple #[.agg #[.bool x.s, .slice x.A x.l x.c, .bool x.s', .slice x.A' x.l' x.c', .int .i64 x.dep, .int .i64 x.num, .slice x.F x.fl x.fc], .bool true]) ∧ L.Perm (x :: L') ∧ (∀ y ∈ L', itLt y x = false) ∧ QH w' qb B (.pointer (some ⟨qb, 0, none⟩)) c2 L' ∧ R w' x.s x.A x.c x.l x.s' x.A' x.c' x.l' x.q 20 ∧ QK w w' B
set_option maxRecDepth 100000 in
set_option maxHeartbeats 4000000 in
theorem pop_q {w : World} {qb B m : Nat} {L : List Itm} {c2 : Value} (h : QH w qb B (.pointer (some ⟨qb, 0, none⟩)) c2 L) (hm : L.length = m + 1) :
    Calls Tryz.prog 9 #[.pointer (some ⟨qb, 0, none⟩)] w (QPop w qb B c2 L) := by
  have hnm : L.length = m + 1 := hm
  obtain ⟨H, cap, hq, ho⟩ := h.at_
  obtain ⟨W, hW, x0, hB⟩ := boxes1 w #[.bool false, .slice none 0 0, .bool false, .slice none 0 0, .int .i64 0, .int .i64 0, .slice none 0 0] 36
  obtain ⟨b0, hb0⟩ : ∃ b, b = w.heap.size := ⟨_, rfl⟩
  rw [← hb0] at x0
  have HW0 := Lib.hid hb0
  rw [hm] at hq
  have hqlt : qb < b0 := by rw [hb0]; exact hq.lt
  have hBb : B ≤ b0 := Nat.le_trans h.base (by omega)
  have HBX := Lib.hid (hq.below hB)
  have HQ := Lib.hid (h.below hB)
  have HX := Lib.hid x0
  have c1 := HBX.out.cell 1 (.slice H (m + 1) cap) rfl
  have g1 : (((m + 1 : Nat) : Int) == 0) = false := by simp; omega
  have g1' : (((m : Int) + 1) == 0) = false := by simp; omega
  have HM := Lib.hid hm
  clear hq ho h x0 hm hnm
  go_enter Tryz.func9, Tryz.ntmps9
  go_wp2_with fail
  rw [← hW, ← hb0]
  clear hW hb0
  with_reducible refine (made_yes HBX.out).mono ?_
  rintro e w1 ⟨rfl, rfl⟩
  go_wp2_with fail
  with_reducible refine (hpop_q HQ.out HM.out).mono ?_
  rintro e w1 ⟨x, L1, rfl, hp, hmin, hq1, k1⟩
  have X1 := Lib.hid (k1.far _ _ _ (by decide) (by decide) HX.out)
  have ta := ta_is (.agg #[.bool x.s, .slice x.A x.l x.c, .bool x.s', .slice x.A' x.l' x.c', .int .i64 x.dep, .int .i64 x.num, .slice x.F x.fl x.fc, .int .i64 x.turn])
  have HP := Lib.hid hp
  have HMIN := Lib.hid hmin
  have HQ1 := Lib.hid hq1
  have K1 := Lib.hid k1
  clear hp hmin hq1 k1 c1
  go_upto_region 4 with (fail)
  obtain ⟨V, hV, x4, hB4⟩ := boxes1 w1 #[.bool x.s, .slice x.A x.l x.c, .bool x.s', .slice x.A' x.l' x.c', .int .i64 x.dep, .int .i64 x.num, .slice x.F x.fl x.fc, .int .i64 x.turn] 110
  rw [← hV]
  clear hV
  obtain ⟨b4, hb4⟩ : ∃ b, b = w1.heap.size := ⟨_, rfl⟩
  rw [← hb4] at x4 ⊢
  have h04 : b0 < b4 := by rw [hb4]; exact X1.out.lt
  replace HQ1 := Lib.hid (HQ1.out.below hB4)
  replace X1 := Lib.hid (X1.out.below hB4)
  have xx := X1.out
  have z0 := xx.cell 0 (.bool false) rfl
  have z1 := xx.cell 1 (.slice none 0 0) rfl
  have z2 := xx.cell 2 (.bool false) rfl
  have z3 := xx.cell 3 (.slice none 0 0) rfl
  have z4 := xx.cell 4 (.int .i64 0) rfl
  have z5 := xx.cell 5 (.int .i64 0) rfl
  have z6 := xx.cell 6 (.slice none 0 0) rfl
  have f0 := xx.frozen 0
  have f1 := xx.frozen 1
  have f2 := xx.frozen 2
  have f3 := xx.frozen 3
  have f4 := xx.frozen 4
  have f5 := xx.frozen 5
  have f6 := xx.frozen 6
  have y0 := xx.lt
  have r0 := x4.cell 0 (.bool x.s) rfl
  have r1 := x4.cell 1 (.slice x.A x.l x.c) rfl
  have r2 := x4.cell 2 (.bool x.s') rfl
  have r3 := x4.cell 3 (.slice x.A' x.l' x.c') rfl
  have r4 := x4.cell 4 (.int .i64 x.dep) rfl
  have r5 := x4.cell 5 (.int .i64 x.num) rfl
  have r6 := x4.cell 6 (.slice x.F x.fl x.fc) rfl
  have X4 := Lib.hid x4
  clear x4 xx hb4 ta
  go_wp2_with fail
  (try simp only [Exit.inBlock, Exit.then])
  refine bodyPost_ret (by simp [results, Tryz.results9, go_sem, z0, z1, z2, z3, z4, z5, z6]; try rfl) rfl ?_
  have hNi : b0 ≠ qb := by omega
  obtain ⟨V2, hV2, X2, kk, far, bel⟩ := store7 (.bool x.s) (.slice x.A x.l x.c) (.bool x.s') (.slice x.A' x.l' x.c') (.int .i64 x.dep) (.int .i64 x.num) (.slice x.F x.fl x.fc) X1.out (fun _ e => by cases e) (fun _ e => by cases e) (fun _ e => by cases e) (fun _ e => by cases e) (fun _ e => by cases e) (fun _ e => by cases e) (fun _ e => by cases e)
  have gg : V.grownBy V2 (some b0) := by rw [hV2]; exact grown_set (grown_set (grown_set (grown_set (grown_set (grown_set (grown_set (grownBy_refl V (some b0)) (.inl rfl) _) (.inl rfl) _) (.inl rfl) _) (.inl rfl) _) (.inl rfl) _) (.inl rfl) _) (.inl rfl) _
  rw [← hV2]
  have KV : QK W V B := K1.out.trans (QK.of_below hB4 (Nat.le_trans hBb (by have := K1.out.below.size; have := HX.out.lt; omega)))
  refine ⟨x, L1, rfl, HP.out, HMIN.out, HQ1.out.kept gg kk (x := b0) (by omega) (by decide) X1.out, (HQ.out.ok x (HP.out.mem_iff.2 List.mem_cons_self)).k (KV.k64.trans kk), ?_⟩
  refine ⟨fun b cs t ht1 ht2 hb => ?_, ((K64.below hB).trans KV.k64).trans kk, ?_⟩
  · exact far b cs t (by have := hb.lt; have := HW0.out; omega) (KV.far b cs t ht1 ht2 (hb.below hB))
  · exact bel B w hBb (((hB.mono (by rw [← HW0.out]; exact hBb)).trans KV.below))
end Go.Proofs.YtihdaemjabhhkaaGreatDoor
