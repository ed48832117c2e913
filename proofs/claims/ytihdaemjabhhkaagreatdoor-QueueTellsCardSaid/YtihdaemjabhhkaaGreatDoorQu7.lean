/-
  The library's heap over a queue's row: Push and Pop. Written by wip/gen/qu7.py.
-/
import Derived.Test.YtihdaemjabhhkaaGreatDoorQu6
namespace Go.Proofs.YtihdaemjabhhkaaGreatDoor
open Go.RowKit Tw Hp

set_option maxRecDepth 100000 in
set_option maxHeartbeats 4000000 in
theorem nlen_q {w : World} {H : Option Addr} {n cap : Nat} : Calls Tryz.prog 245 #[.slice H n cap] w fun e w' => e = .returned (.int .i64 (n : Int)) ∧ w = w' := by
  go_enter Tryz.func245, Tryz.ntmps245
  go_wp2_with fail
  go_ret
  exact ⟨rfl, rfl⟩
theorem m_push (a : Addr) (w : World) : (method 336 112 (.pointer (some a)) "Push").run Tryz.prog w = .ok (249, .pointer (some a)) w := by kernel_rfl
theorem m_pop (a : Addr) (w : World) : (method 336 112 (.pointer (some a)) "Pop").run Tryz.prog w = .ok (248, .pointer (some a)) w := by kernel_rfl
/-- The queue's row, of which base B is below, is a heap of the items L. -/
structure QH (w : World) (qb B : Nat) (c0 c2 : Value) (L : List Itm) : Prop where
  at_ : ∃ H cap, Bx w qb #[c0, .slice H L.length cap, c2] 108 ∧ OwnR w B 110 8 (.slice H L.length cap) L.length (row L)
  heap : Heap itLt L L.length
  ok : OkL w L
  base : B ≤ qb
  small : L.length ≤ 1000000
/-- What a change of a queue leaves. -/
structure QK (w w' : World) (B : Nat) : Prop where
  far : QFar w w'
  k64 : K64 w w'
  below : Below B w w'
theorem QK.trans {a b c : World} {B : Nat} (h : QK a b B) (k : QK b c B) : QK a c B := ⟨h.far.trans k.far, h.k64.trans k.k64, h.below.trans k.below⟩
theorem QK.of_below {w w' : World} {B : Nat} (h : Below w.heap.size w w') (hB : B ≤ w.heap.size) : QK w w' B := ⟨QFar.of_below h, K64.below h, h.mono hB⟩
theorem QK.of_sh {w w' : World} {g cap B : Nat} {L : List Itm} (h : Sh w w' g) (hr : HRow w g cap L) (hB : B ≤ g) : QK w w' B :=
  ⟨QFar.of_sh h hr, h.1, ⟨h.2.os, h.2.tape, h.2.output, h.2.size, fun i hi => h.2.block i (by have := hr.lt; omega) (by simp; omega)⟩⟩
theorem sh_q {w w' : World} {g qb : Nat} {cs : Array Value} {t : TypeId} (h : Sh w w' g) (hq : Bx w qb cs t) (hne : qb ≠ g) : Bx w' qb cs t := (h.2.block qb hq.lt (by simpa using hne)).trans hq
/-- A pushed one is in. -/
def HPush (w : World) (qb B : Nat) (c0 c2 : Value) (L : List Itm) (e : Ending) (w' : World) : Prop := e = .returned (.tuple #[]) ∧ ∃ L', L'.Perm L ∧ QH w' qb B c0 c2 L' ∧ QK w w' B
set_option maxRecDepth 100000 in
set_option maxHeartbeats 4000000 in
theorem hpush_q {w : World} {qb B : Nat} {L : List Itm} {c0 c2 : Value} (x : Itm) (h : QH w qb B c0 c2 L) (hx : R w x.s x.A x.c x.l x.s' x.A' x.c' x.l' x.q 20) (hn : L.length < 1000000) :
    Calls Tryz.prog 70 #[.iface 112 (.pointer (some ⟨qb, 1, none⟩)), .iface 110 (.agg #[.bool x.s, .slice x.A x.l x.c, .bool x.s', .slice x.A' x.l' x.c', .int .i64 x.dep, .int .i64 x.num, .slice x.F x.fl x.fc, .int .i64 x.turn])] w (HPush w qb B c0 c2 (L ++ [x])) := by
  obtain ⟨⟨H, cap, hq, ho⟩, hh, hok, hb, hs⟩ := h
  obtain ⟨n, hnl⟩ : ∃ n, n = L.length := ⟨_, rfl⟩
  rw [← hnl] at hq ho hn hs
  have HH := Lib.hid hh
  have HL := Lib.hid hnl
  have HOK := Lib.hid hok
  have HX := Lib.hid hx
  have hBw : B ≤ w.heap.size := by have := hq.lt; omega
  have mp := m_push ⟨qb, 1, none⟩
  clear hh hok hx hnl
  go_enter Tryz.func70, Tryz.ntmps70
  go_wp2_with fail
  with_reducible refine (npush_q x hq ho (by omega) hb).mono ?_
  rintro e w1 ⟨rfl, H1, cap1, hq1, ho1, qf1, k1, bl1⟩
  obtain ⟨g, rfl⟩ : ∃ g, H1 = some ⟨g, 0, none⟩ := ho1.block (by omega)
  obtain ⟨hr1, hl1, hBg⟩ := ho1.hrow
  have hne : qb ≠ g := by obtain ⟨arr, a1, _⟩ := hr1; exact bx_ne (by decide) hq1 a1
  have ok1 : OkL w1 (L ++ [x]) := fun y hy => by
    rcases List.mem_append.1 hy with h1 | h1
    · exact (HOK.out y h1).k k1
    · obtain rfl : y = x := by simpa using h1
      exact HX.out.k k1
  have c1 := hq1.cell 1 (.slice (some ⟨g, 0, none⟩) (n + 1) cap1) rfl
  have hq2 : HQ w1 qb g cap1 (n + 1) (L ++ [x]) := ⟨c1, hr1, hl1, hne, ok1, by omega⟩
  have HQ1 := Lib.hid hq1
  have HHQ := Lib.hid hq2
  have HR1 := Lib.hid hr1
  have QK1 := Lib.hid (QK.mk qf1 k1 bl1)
  have ml := m_len ⟨qb, 1, none⟩ w1 _ c1
  clear hq1 ho1 qf1 k1 bl1 hr1 hl1 ok1 hq2 hq ho mp
  go_wp2_with fail
  with_reducible refine nlen_q.mono ?_
  rintro e w2 ⟨rfl, rfl⟩
  clear ml c1
  go_wp2_with fail
  have hup : UpInv itLt (L ++ [x]) n := by rw [HL.out]; exact UpInv.start HH.out
  with_reducible refine (up_q HHQ.out hup (by omega)).mono ?_
  rintro e w3 ⟨rfl, L3, hp3, hh3, hq3, hs3⟩
  have hl3 : L3.length = n + 1 := hq3.len
  have Q3 : Bx w3 qb #[c0, .slice (some ⟨g, 0, none⟩) (n + 1) cap1, c2] 108 := sh_q hs3 HQ1.out hne
  have O3 := hq3.row.own hBg
  rw [hl3] at O3
  have K3 := QK1.out.trans (QK.of_sh hs3 HR1.out hBg)
  have E3 : HPush w qb B c0 c2 (L ++ [x]) (.returned (.tuple #[])) w3 := by
    refine ⟨rfl, L3, hp3, ⟨⟨some ⟨g, 0, none⟩, cap1, by rw [hl3]; exact Q3, by rw [hl3]; exact O3⟩, by rw [hl3]; exact hh3, hq3.ok, hb, by omega⟩, K3⟩
  have HE := Lib.hid E3
  clear hup hp3 hh3 hq3 hs3 hl3 Q3 O3 K3 E3
  go_wp2_with fail
  go_end0
  exact HE.out
/-- The first one is out. -/
def HPop (w : World) (qb B : Nat) (c0 c2 : Value) (L : List Itm) (e : Ending) (w' : World) : Prop :=
  ∃ (x : Itm) (L' : List Itm), e = .returned (.iface 110 (.agg #[.bool x.s, .slice x.A x.l x.c, .bool x.s', .slice x.A' x.l' x.c', .int .i64 x.dep, .int .i64 x.num, .slice x.F x.fl x.fc, .int .i64 x.turn])) ∧ L.Perm (x :: L') ∧ (∀ y ∈ L', itLt y x = false) ∧ QH w' qb B c0 c2 L' ∧ QK w w' B
theorem heap_take {L : List Itm} {x : Itm} {m : Nat} (hl : L.length = m) (h : Heap itLt (L ++ [x]) m) : Heap itLt L L.length := fun k k0 hk => by
  have hx : ∀ k, k < L.length → ix (L ++ [x]) k = ix L k := fun k hk => by
    unfold ix; rw [List.getD_eq_getElem?_getD, List.getElem?_append_left hk, ← List.getD_eq_getElem?_getD]
  have := h k k0 (by omega)
  rw [hx k hk, hx (par k) (by unfold par; omega)] at this
  exact this
theorem split_last {L : List Itm} {x : Itm} {m : Nat} (hl : L.length = m + 1) (hx : ix L m = x) : ∃ L', L = L' ++ [x] ∧ L'.length = m := by
  refine ⟨L.take m, ?_, by rw [List.length_take]; omega⟩
  rw [← hx, ix_get (by omega), ← List.take_succ_eq_append_getElem (by omega), List.take_of_length_le (by omega)]
set_option maxRecDepth 100000 in
set_option maxHeartbeats 4000000 in
theorem hpop_q {w : World} {qb B m : Nat} {L : List Itm} {c0 c2 : Value} (h : QH w qb B c0 c2 L) (hm : L.length = m + 1) :
    Calls Tryz.prog 66 #[.iface 112 (.pointer (some ⟨qb, 1, none⟩))] w (HPop w qb B c0 c2 L) := by
  obtain ⟨⟨H, cap, hq, ho⟩, hh, hok, hb, hs⟩ := h
  rw [hm] at hq ho hh hs
  obtain ⟨g, rfl⟩ : ∃ g, H = some ⟨g, 0, none⟩ := ho.block (by omega)
  obtain ⟨hr, hl, hBg⟩ := ho.hrow
  have hne : qb ≠ g := by obtain ⟨arr, a1, _⟩ := hr; exact bx_ne (by decide) hq a1
  have c1 := hq.cell 1 (.slice (some ⟨g, 0, none⟩) (m + 1) cap) rfl
  have hq1 : HQ w qb g cap (m + 1) L := ⟨c1, hr, hl, hne, hok, by omega⟩
  have hBw : B ≤ w.heap.size := by have := hq.lt; omega
  have ml := m_len ⟨qb, 1, none⟩ w _ c1
  have HM := Lib.hid hm
  have HH := Lib.hid hh
  have HHQ := Lib.hid hq1
  have HBX := Lib.hid hq
  have HR := Lib.hid hr
  have mp := m_pop ⟨qb, 1, none⟩
  clear hq ho hh hok hr hl hq1 hm
  go_enter Tryz.func66, Tryz.ntmps66
  go_wp2_with fail
  with_reducible refine nlen_q.mono ?_
  rintro e w2 ⟨rfl, rfl⟩
  have ms := m_swap ⟨qb, 1, none⟩ w _ c1
  clear ml
  go_wp2_with fail
  with_reducible refine (swap_x (i := 0) (j := m) HHQ.out (by omega) (by omega) 0 (m : Int) rfl rfl).mono ?_
  rintro e w3 ⟨rfl, h3, s3⟩
  have H3 := Lib.hid h3
  have S3 := Lib.hid s3
  clear h3 s3 ms c1
  go_wp2_with fail
  have hd : DownInv itLt (swp L 0 m) m 0 := DownInv.start HH.out HM.out
  with_reducible refine (down_q H3.out hd (by omega) (by omega)).mono ?_
  rintro e w4 ⟨t4, rfl, L4, hp4, hh4, ht4, hq4, hs4⟩
  have hl4 : L4.length = m + 1 := hq4.len
  have hx4 : ix L4 m = ix L 0 := by
    rw [ht4 m (Nat.le_refl _)]
    rcases Nat.eq_zero_or_pos m with e | e
    · subst e; exact ix_swp_r (by rw [HM.out]; omega)
    · exact ix_swp_r (by rw [HM.out]; omega)
  obtain ⟨x, hx⟩ : ∃ x, ix L 0 = x := ⟨_, rfl⟩
  rw [hx] at hx4
  obtain ⟨L5, rfl, hl5⟩ := split_last hl4 hx4
  have hp : L.Perm (x :: L5) := by
    have h1 := hp4.trans (swp_perm L (i := 0) (j := m) (by rw [HM.out]; omega) (by rw [HM.out]; omega))
    exact h1.symm.trans (by simp)
  have hmin : ∀ y ∈ L5, itLt y x = false := fun y hy => by
    have hyL : y ∈ L := hp.mem_iff.2 (List.mem_cons_of_mem _ hy)
    obtain ⟨k, hk, rfl⟩ := List.getElem_of_mem hyL
    have := HH.out.first swo_it k (by rw [← HM.out]; exact hk)
    rw [hx, ix_get hk] at this
    exact this
  have Q4 : Bx w4 qb #[c0, .slice (some ⟨g, 0, none⟩) (m + 1) cap, c2] 108 := sh_q hs4 (sh_q S3.out HBX.out hne) hne
  have HP := Lib.hid hp
  have HMIN := Lib.hid hmin
  have HHP := Lib.hid (heap_take hl5 hh4)
  have HQ4 := Lib.hid hq4
  have QK4 := Lib.hid ((QK.of_sh S3.out HR.out hBg).trans (QK.of_sh hs4 H3.out.row hBg) : QK w w4 B)
  have HL5 := Lib.hid hl5
  clear hd hp4 hh4 ht4 hs4 hl4 hx4 hx hp hmin hq4 hl5
  go_wp2_with fail
  with_reducible refine (npop_q Q4 HQ4.out.row HL5.out hne (by omega)).mono ?_
  rintro e w5 ⟨rfl, q5, r5, f5, k5, b5⟩
  have hB5 : B ≤ w4.heap.size := by have := QK4.out.below.size; omega
  have O5 := r5.own hBg
  rw [HL5.out] at O5
  have E5 : HPop w qb B c0 c2 L (.returned (.iface 110 (.agg #[.bool x.s, .slice x.A x.l x.c, .bool x.s', .slice x.A' x.l' x.c', .int .i64 x.dep, .int .i64 x.num, .slice x.F x.fl x.fc, .int .i64 x.turn]))) w5 :=
    ⟨x, L5, rfl, HP.out, HMIN.out, ⟨⟨some ⟨g, 0, none⟩, cap, by rw [HL5.out]; exact q5, by rw [HL5.out]; exact O5⟩, HHP.out, fun y hy => (HQ4.out.ok y (List.mem_append_left _ hy)).k k5, hb, by have := HL5.out; omega⟩, QK4.out.trans ⟨f5, k5, b5 B hb hBg hB5⟩⟩
  have HE := Lib.hid E5
  clear q5 r5 f5 k5 b5 O5 E5 Q4
  go_wp2_with fail
  go_ret
  exact HE.out
end Go.Proofs.YtihdaemjabhhkaaGreatDoor
