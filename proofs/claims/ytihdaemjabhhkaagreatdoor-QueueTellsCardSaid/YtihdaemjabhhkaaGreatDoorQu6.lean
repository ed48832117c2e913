/-
  A queue's row and the library's heap: Pop of the row, Push and Pop of the heap. Written by wip/gen/qu6.py.
-/
import Derived.Test.YtihdaemjabhhkaaGreatDoorQu5
namespace Go.Proofs.YtihdaemjabhhkaaGreatDoor
open Go.RowKit Tw Hp

/-- An item of zeros. -/
def itZ : Itm := ⟨false, none, 0, 0, false, none, 0, 0, 0, 0, 0, none, 0, 0, 0⟩
theorem ix_last (L : List Itm) (x : Itm) : ix (L ++ [x]) L.length = x := by unfold ix; rw [List.getD_eq_getElem?_getD, List.getElem?_append_right (Nat.le_refl _), Nat.sub_self]; rfl
theorem set_last (L : List Itm) (x z : Itm) : (L ++ [x]).set L.length z = L ++ [z] := by rw [List.set_append_right _ _ (Nat.le_refl _), Nat.sub_self]; rfl
/-- The last one is taken away. -/
def NPop (w : World) (qb g cap n : Nat) (c0 c2 : Value) (L : List Itm) (x : Itm) (e : Ending) (w' : World) : Prop :=
  e = .returned (.iface 110 (.agg #[.bool x.s, .slice x.A x.l x.c, .bool x.s', .slice x.A' x.l' x.c', .int .i64 x.dep, .int .i64 x.num, .slice x.F x.fl x.fc, .int .i64 x.turn])) ∧ Bx w' qb #[c0, .slice (some ⟨g, 0, none⟩) n cap, c2] 108 ∧ HRow w' g cap L ∧ QFar w w' ∧ K64 w w' ∧ ∀ B, B ≤ qb → B ≤ g → B ≤ w.heap.size → Below B w w'
set_option maxRecDepth 100000 in
set_option maxHeartbeats 4000000 in
theorem npop_q {w : World} {qb g n cap : Nat} {L : List Itm} {c0 c2 : Value} {x : Itm} (hq : Bx w qb #[c0, .slice (some ⟨g, 0, none⟩) (n + 1) cap, c2] 108) (h : HRow w g cap (L ++ [x])) (hl : L.length = n) (hne : qb ≠ g) (hn : n ≤ 2000000) :
    Calls Tryz.prog 248 #[.pointer (some ⟨qb, 1, none⟩)] w (NPop w qb g cap n c0 c2 L x) := by
  have IT := h.it (i := n) (a := x) (by simp; omega) (by rw [← hl]; exact ix_last L x)
  have r0 := IT.c0
  have r1 := IT.at 1 (.slice x.A x.l x.c) rfl
  have r2 := IT.at 2 (.bool x.s') rfl
  have r3 := IT.at 3 (.slice x.A' x.l' x.c') rfl
  have r4 := IT.at 4 (.int .i64 x.dep) rfl
  have r5 := IT.at 5 (.int .i64 x.num) rfl
  have r6 := IT.at 6 (.slice x.F x.fl x.fc) rfl
  have r7 := IT.at 7 (.int .i64 x.turn) rfl
  have p1 := hq.cell 1 (.slice (some ⟨g, 0, none⟩) (n + 1) cap) rfl
  have n1 : ((n : Int)) < ((n + 1 : Nat) : Int) := by omega
  have n2 : (0 : Int) ≤ (n : Int) := by omega
  have n3 : n < n + 1 := by omega
  have hcap := h.len
  have n4 : n ≤ cap := by simp at hcap; omega
  have n5 : (n : Int) ≤ (cap : Int) := by omega
  have HR := Lib.hid h
  have HQ := Lib.hid hq
  have HL := Lib.hid hl
  clear h hq IT hcap hl
  go_enter Tryz.func248, Tryz.ntmps248
  go_upto_region 3 with (fail)
  obtain ⟨W, hW, x4, hB4⟩ := boxes1 w #[.bool x.s, .slice x.A x.l x.c, .bool x.s', .slice x.A' x.l' x.c', .int .i64 x.dep, .int .i64 x.num, .slice x.F x.fl x.fc, .int .i64 x.turn] 110
  rw [← hW]
  clear hW
  obtain ⟨b4, hb4⟩ : ∃ b, b = w.heap.size := ⟨_, rfl⟩
  rw [← hb4] at x4 ⊢
  have hq4 : qb < b4 := by rw [hb4]; exact HQ.out.lt
  have hg4 : g < b4 := by rw [hb4]; exact HR.out.lt
  replace HR := Lib.hid (HR.out.below hB4)
  replace HQ := Lib.hid (HQ.out.below hB4)
  have X4 := Lib.hid x4
  clear x4 p1 r0 r1 r2 r3 r4 r5 r6 r7 hb4
  have IT := HR.out.it (i := n) (a := x) (by have := HL.out; simp; omega) (by rw [← HL.out]; exact ix_last L x)
  have r0 := IT.c0
  have r1 := IT.at 1 (.slice x.A x.l x.c) rfl
  have r2 := IT.at 2 (.bool x.s') rfl
  have r3 := IT.at 3 (.slice x.A' x.l' x.c') rfl
  have r4 := IT.at 4 (.int .i64 x.dep) rfl
  have r5 := IT.at 5 (.int .i64 x.num) rfl
  have r6 := IT.at 6 (.slice x.F x.fl x.fc) rfl
  have r7 := IT.at 7 (.int .i64 x.turn) rfl
  have f0 := HR.out.frozen (n * 8)
  have f1 := HR.out.frozen (n * 8 + 1)
  have f2 := HR.out.frozen (n * 8 + 2)
  have f3 := HR.out.frozen (n * 8 + 3)
  have f4 := HR.out.frozen (n * 8 + 4)
  have f5 := HR.out.frozen (n * 8 + 5)
  have f6 := HR.out.frozen (n * 8 + 6)
  have f7 := HR.out.frozen (n * 8 + 7)
  have lg := HR.out.lt
  have p1 := HQ.out.cell 1 (.slice (some ⟨g, 0, none⟩) (n + 1) cap) rfl
  clear IT
  go_upto_region 4 with (fail)
  have n2 : ∀ b cs t, t ≠ 110 → Bx W b cs t → b ≠ g := fun b cs t ht hb => by obtain ⟨arr, a1, _⟩ := HR.out; exact bx_ne ht hb a1
  obtain ⟨V1, hV, hr, kk, gg⟩ := row_store HR.out (i := n) (by have := HL.out; simp; omega) itZ
  have hV' : V1 = (((((((W.setCell ⟨g, n * 8, none⟩ (.bool false)).setCell ⟨g, n * 8 + 1, none⟩ (.slice none 0 0)).setCell ⟨g, n * 8 + 2, none⟩ (.bool false)).setCell ⟨g, n * 8 + 3, none⟩ (.slice none 0 0)).setCell ⟨g, n * 8 + 4, none⟩ (.int .i64 0)).setCell ⟨g, n * 8 + 5, none⟩ (.int .i64 0)).setCell ⟨g, n * 8 + 6, none⟩ (.slice none 0 0)).setCell ⟨g, n * 8 + 7, none⟩ (.int .i64 0) := hV
  rw [← hV']
  clear hV hV' HR r0 r1 r2 r3 r4 r5 r6 r7 f0 f1 f2 f3 f4 f5 f6 f7 lg p1
  have q1 : Bx V1 qb #[c0, .slice (some ⟨g, 0, none⟩) (n + 1) cap, c2] 108 := (gg.block qb HQ.out.lt (by simpa using hne)).trans HQ.out
  have x4 : Bx V1 b4 #[.bool x.s, .slice x.A x.l x.c, .bool x.s', .slice x.A' x.l' x.c', .int .i64 x.dep, .int .i64 x.num, .slice x.F x.fl x.fc, .int .i64 x.turn] 110 := (gg.block b4 X4.out.lt (by simp; omega)).trans X4.out
  have Q1 := Lib.hid q1
  have X41 := Lib.hid x4
  have HR1 := Lib.hid hr
  have p1 := q1.cell 1 (.slice (some ⟨g, 0, none⟩) (n + 1) cap) rfl
  have f1 := q1.frozen 1
  have l1 := q1.lt
  clear q1 x4 hr
  go_upto_region 5 with (fail)
  obtain ⟨V2, hV2⟩ : ∃ V, V = V1.setCell ⟨qb, 1, none⟩ (.slice (some ⟨g, 0, none⟩) n cap) := ⟨_, rfl⟩
  rw [← hV2]
  have x4 : Bx V2 b4 #[.bool x.s, .slice x.A x.l x.c, .bool x.s', .slice x.A' x.l' x.c', .int .i64 x.dep, .int .i64 x.num, .slice x.F x.fl x.fc, .int .i64 x.turn] 110 := by rw [hV2]; exact X41.out.far (by simp; omega) _
  have q2 : Bx V2 qb #[c0, .slice (some ⟨g, 0, none⟩) n cap, c2] 108 := by rw [hV2]; exact Q1.out.set 1 _
  have hr2 : HRow V2 g cap L := by
    rw [hV2]
    have e : (L ++ [x]).set n itZ = L ++ [itZ] := by rw [← HL.out]; exact set_last L x itZ
    have h1 := HR1.out
    rw [e] at h1
    exact (h1.take).grown (grown_set (grownBy_refl V1 (some qb)) (.inl rfl) _) (by simpa using Ne.symm hne)
  have k2 : K64 V1 V2 := by rw [hV2]; exact K64.set p1 (fun _ e => by cases e) _
  have g2 : V1.grownBy V2 (some qb) := by rw [hV2]; exact grown_set (grownBy_refl V1 (some qb)) (.inl rfl) _
  have K := Lib.hid (((K64.below hB4).trans kk).trans k2)
  have G2 := Lib.hid g2
  have GG := Lib.hid gg
  have HQ2 := Lib.hid q2
  have HR2 := Lib.hid hr2
  have r0 := x4.cell 0 (.bool x.s) rfl
  have r1 := x4.cell 1 (.slice x.A x.l x.c) rfl
  have r2 := x4.cell 2 (.bool x.s') rfl
  have r3 := x4.cell 3 (.slice x.A' x.l' x.c') rfl
  have r4 := x4.cell 4 (.int .i64 x.dep) rfl
  have r5 := x4.cell 5 (.int .i64 x.num) rfl
  have r6 := x4.cell 6 (.slice x.F x.fl x.fc) rfl
  have r7 := x4.cell 7 (.int .i64 x.turn) rfl
  clear x4 hV2 p1 f1 l1 k2 g2 gg kk q2 hr2
  go_wp2_with fail
  go_ret
  refine ⟨rfl, HQ2.out, HR2.out, ?_, K.out, fun B hBq hBg hBw => ?_⟩
  · intro b cs t ht1 ht2 hb
    have h1 := hb.below hB4
    have n1 : b ≠ qb := bx_ne ht1 h1 HQ.out
    exact (G2.out.block b (Nat.lt_of_lt_of_le h1.lt GG.out.size) (by simpa using n1)).trans ((GG.out.block b h1.lt (by simpa using n2 b cs t ht2 h1)).trans h1)
  · exact ((hB4.mono hBw).trans ⟨GG.out.os, GG.out.tape, GG.out.output, GG.out.size, fun i hi => GG.out.block i (by have := hB4.size; omega) (by simp; omega)⟩).trans ⟨G2.out.os, G2.out.tape, G2.out.output, G2.out.size, fun i hi => G2.out.block i (by have := hB4.size; have := GG.out.size; omega) (by simp; omega)⟩
end Go.Proofs.YtihdaemjabhhkaaGreatDoor
