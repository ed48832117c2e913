/-
  QueueOrders: the walk. Written by wip/gen/qo2.py.
-/
import Derived.Test.YtihdaemjabhhkaaDoorQo1
namespace Go.Proofs.YtihdaemjabhhkaaDoor
open Go.RowKit Tw Hp

theorem NdAt.at {w w' : World} {b off i : Nat} {x : Itm} (h : NdAt w b off i x) (hb : Below w.heap.size w w') (j : Nat) (c : Value) (hj : j < 7) (hx : x.cs[j]? = some c) : w'.cell? ⟨b, off + i * 7 + j, none⟩ = some c :=
  (hb.cell (World.block_lt_of_cell? w _ (h j c hj hx))).trans (h j c hj hx)
theorem InI.below {w w' : World} {s : Bool} {A : Option Addr} {l c : Nat} (h : InI w s A l c) (hb : Below w.heap.size w w') : InI w' s A l c := by
  obtain ⟨⟨z, h1⟩, h2⟩ := h; exact ⟨⟨z, h1.below hb⟩, h2⟩
/-- A state of the first loop. -/
def O1 (w : World) (qb n gk : Nat) (s4 s5 s22 : Value) (wr : World) : Prop :=
  ∃ k L, k ≤ n ∧ n - k = gk ∧ List.length L ≤ k ∧ s4 = .int .i64 (sumN L) ∧ s5 = .int .i64 (L.length : Int) ∧ s22 = .int .i64 (k : Int) ∧
    QH wr qb w.heap.size (.pointer (some ⟨qb, 0, none⟩)) (.int .i64 (L.length : Int)) L ∧ Below w.heap.size w wr
set_option maxRecDepth 100000 in
theorem pop_e {w : World} {qb B : Nat} {c2 : Value} (h : QH w qb B (.pointer (some ⟨qb, 0, none⟩)) c2 []) : Calls Tryd.prog 40 #[.pointer (some ⟨qb, 0, none⟩)] w fun e w' => e = .returned (.tuple #[.agg #[.bool false, .slice none 0 0, .bool false, .slice none 0 0, .int .i64 0, .int .i64 0, .slice none 0 0], .bool false]) ∧ Below w.heap.size w w' := by
  obtain ⟨W, hW, x0, hB⟩ := boxes1 w #[.bool false, .slice none 0 0, .bool false, .slice none 0 0, .int .i64 0, .int .i64 0, .slice none 0 0] 44
  obtain ⟨H, cap, hq, _⟩ := h.at_
  have HQ := Lib.hid (hq.below hB)
  have c1 := HQ.out.cell 1 (.slice H 0 cap) rfl
  have p0 := x0.cell 0 (.bool false) rfl
  have p1 := x0.cell 1 (.slice none 0 0) rfl
  have p2 := x0.cell 2 (.bool false) rfl
  have p3 := x0.cell 3 (.slice none 0 0) rfl
  have p4 := x0.cell 4 (.int .i64 0) rfl
  have p5 := x0.cell 5 (.int .i64 0) rfl
  have p6 := x0.cell 6 (.slice none 0 0) rfl
  have f0 := x0.frozen 0
  have f1 := x0.frozen 1
  have f2 := x0.frozen 2
  have f3 := x0.frozen 3
  have f4 := x0.frozen 4
  have f5 := x0.frozen 5
  have f6 := x0.frozen 6
  have l0 := x0.lt
  clear h x0 hq
  go_enter Tryd.func40, Tryd.ntmps40
  go_wp2_with fail
  rw [← hW]
  clear hW
  with_reducible refine (made_yes HQ.out).mono ?_
  rintro e w1 ⟨rfl, rfl⟩
  go_wp2_with fail
  (try simp only [Exit.inBlock, Exit.then])
  refine bodyPost_ret (by simp [results, Tryd.results40, go_sem, p0, p1, p2, p3, p4, p5, p6]; try rfl) rfl ?_
  exact ⟨rfl, ((((((hB.setCell (Nat.le_refl _) _).setCell (Nat.le_refl _) _).setCell (Nat.le_refl _) _).setCell (Nat.le_refl _) _).setCell (Nat.le_refl _) _).setCell (Nat.le_refl _) _).setCell (Nat.le_refl _) _⟩
theorem rz (w : World) : R w false none 0 0 false none 0 0 0 20 := ⟨0, 0, i_none w false, i_none w false, by rw [if_pos rfl, qof_one]; rfl, by omega, by omega⟩
/-- A state of the second loop: the last one told is x. -/
def O2 (w : World) (qb b7 N gk : Nat) (s4 s8 : Value) (wr : World) : Prop :=
  ∃ (i : Nat) (L : List Itm) (x : Itm), i + L.length = N ∧ L.length = gk ∧ s4 = .int .i64 (sumN L) ∧ s8 = .int .i64 (i : Int) ∧
    QH wr qb w.heap.size (.pointer (some ⟨qb, 0, none⟩)) (.int .i64 (N : Int)) L ∧ Bx wr b7 #[.bool x.s, .slice x.A x.l x.c, .bool x.s', .slice x.A' x.l' x.c', .int .i64 x.dep, .int .i64 x.num, .slice x.F x.fl x.fc] 44 ∧ R wr x.s x.A x.c x.l x.s' x.A' x.c' x.l' x.q 20 ∧ (0 < i → ∀ y ∈ L, itLt y x = false) ∧ Below w.heap.size w wr
/-- What the order says of two that follow each other. -/
theorem next_ok {x y : Itm} (h : itLt y x = false) : ¬ 0 < cmpQ x.q y.q ∧ (cmpQ x.q y.q = 0 → ¬ x.dep < y.dep ∧ (x.dep = y.dep → ¬ y.num < x.num)) := by
  rw [Bool.eq_false_iff, Ne, itLt_iff] at h
  refine ⟨fun h0 => h (.inl ?_), fun h0 => ?_⟩
  · unfold cmpQ at h0
    rcases rat_tri x.q y.q with e | e | e
    · rw [if_pos e] at h0; omega
    · rw [if_neg (by rw [e]; exact Rat.lt_irrefl), if_pos e] at h0; omega
    · exact e
  · have e := (cmpQ_eq _ _).1 h0
    refine ⟨fun h1 => h (.inr ⟨e.symm, .inl h1⟩), fun h1 h2 => h (.inr ⟨e.symm, .inr ⟨h1.symm, .inl h2⟩⟩)⟩
set_option maxRecDepth 100000 in
set_option maxHeartbeats 8000000 in
theorem orders_q {w : World} {F : Option Addr} {len cap n : Nat} (hl : len ≤ cap) (_hc : cap ≤ 9223372036854775807) (hm : min (len : Int) 300 = (n : Int)) (hn : n ≤ 300) (hnl : n ≤ len)
    (hN : Hid (0 < n → ∃ g off, F = some ⟨g, off, none⟩ ∧ ∀ i, i < n → ∃ x, NdAt w g off i x ∧ NdOk w x)) (hT : Hid (Tab w)) :
    Calls Tryd.prog 5 #[.slice F len cap] w fun e w' => e = .returned (.bool true) ∧ Below w.heap.size w w' := by
  go_enter Tryd.func5, Tryd.ntmps5
  go_wp2_with fail
  with_reducible refine new_q.mono ?_
  rintro e w1 ⟨qb, rfl, hqb, hq1, b1⟩
  have HQ := Lib.hid hq1
  clear hq1 hm
  go_wp2_with fail
  go_loopg [4, 5, 22] n (fun gk s4 s5 s22 wr => O1 w qb n gk s4 s5 s22 wr)
  case atStart => exact ⟨0, [], Nat.zero_le _, rfl, Nat.le_refl _, rfl, rfl, rfl, HQ.out, b1⟩
  case round =>
    clear HQ b1
    obtain ⟨k, L, hk, hgk, hLk, rfl, rfl, rfl, hq, hB⟩ := hrel
    have HQ := Lib.hid hq
    have HGK := Lib.hid hgk
    have sb := sumN_bd L
    have hLs := HQ.out.small
    clear hq hgk
    by_cases hlt : k < n
    · obtain ⟨g, off, rfl, hX⟩ := hN.out (by omega)
      obtain ⟨x, hnd, hok⟩ := hX k hlt
      have ND : Hid (∀ (w' : World) (j : Nat) (hj : j < 7), Below w.heap.size w w' → w'.cell? ⟨g, off + k * 7 + j, none⟩ = x.cs[j]?) := Lib.hid fun w' j hj hb => by
        have hx : x.cs[j]? = some (x.cs[j]'(by simpa [Itm.cs] using Nat.lt_succ_of_lt hj)) := List.getElem?_eq_getElem _
        rw [hx]; exact hnd.at hb j _ hj hx
      have HOK := Lib.hid hok
      have hlx : x.l ≤ maxLen ∧ x.l' ≤ maxLen := by have h1 := hok.rat.1.2; have h2 := hok.rat.2.2; unfold maxLen; omega
      have i1 : (k : Int) < (n : Int) := by omega
      have i2 : (0 : Int) ≤ (k : Int) := by omega
      clear hX hnd hok
      have p0 : wr.cell? ⟨g, off + k * 7, none⟩ = some (.bool x.s) := ND.out wr 0 (by omega) hB
      have p1 : wr.cell? ⟨g, off + k * 7 + 1, none⟩ = some (.slice x.A x.l x.c) := ND.out wr 1 (by omega) hB
      have p2 : wr.cell? ⟨g, off + k * 7 + 2, none⟩ = some (.bool x.s') := ND.out wr 2 (by omega) hB
      have p3 : wr.cell? ⟨g, off + k * 7 + 3, none⟩ = some (.slice x.A' x.l' x.c') := ND.out wr 3 (by omega) hB
      have p4 : wr.cell? ⟨g, off + k * 7 + 4, none⟩ = some (.int .i64 x.dep) := ND.out wr 4 (by omega) hB
      have p5 : wr.cell? ⟨g, off + k * 7 + 5, none⟩ = some (.int .i64 x.num) := ND.out wr 5 (by omega) hB
      have p6 : wr.cell? ⟨g, off + k * 7 + 6, none⟩ = some (.slice x.F x.fl x.fc) := ND.out wr 6 (by omega) hB
      cases hlg : longB x.fl x.l x.l'
      · have HL := Lib.hid hlg
        clear hlg
        go_wp2_with fail
        with_reducible refine (long_q false HL.out HOK.out.len hlx.1 hlx.2).mono ?_
        rintro e w2 ⟨rfl, b2⟩
        have hB2 := below_trans hB b2
        have hb4 : x.fl ≤ 1000 ∧ x.l ≤ 4 ∧ x.l' ≤ 4 := by have := HL.out; simp [longB] at this; omega
        obtain ⟨q, hr⟩ := InR.r (m := 8) (show InR w2 x.s x.A x.l x.c x.s' x.A' x.l' x.c' from ⟨HOK.out.rat.1.below hB2, HOK.out.rat.2.below hB2⟩) (by omega) (by omega)
        obtain ⟨ps, hfx⟩ := HOK.out.fix
        have hsz : sz q ≤ 20 := Nat.le_trans hr.sz (by omega)
        have HR := Lib.hid hr
        have HFX := Lib.hid (hfx.below hB2)
        have hLl : L.length < 1000000 := by omega
        have HTW := Lib.hid (Tab.below hT.out hB2)
        clear hr hfx p0 p1 p2 p3 p4 p5 p6
        have p0 : w2.cell? ⟨g, off + k * 7, none⟩ = some (.bool x.s) := ND.out w2 0 (by omega) hB2
        have p1 : w2.cell? ⟨g, off + k * 7 + 1, none⟩ = some (.slice x.A x.l x.c) := ND.out w2 1 (by omega) hB2
        have p2 : w2.cell? ⟨g, off + k * 7 + 2, none⟩ = some (.bool x.s') := ND.out w2 2 (by omega) hB2
        have p3 : w2.cell? ⟨g, off + k * 7 + 3, none⟩ = some (.slice x.A' x.l' x.c') := ND.out w2 3 (by omega) hB2
        have p4 : w2.cell? ⟨g, off + k * 7 + 4, none⟩ = some (.int .i64 x.dep) := ND.out w2 4 (by omega) hB2
        have p5 : w2.cell? ⟨g, off + k * 7 + 5, none⟩ = some (.int .i64 x.num) := ND.out w2 5 (by omega) hB2
        have p6 : w2.cell? ⟨g, off + k * 7 + 6, none⟩ = some (.slice x.F x.fl x.fc) := ND.out w2 6 (by omega) hB2
        go_wp2_with fail
        with_reducible refine (push_q (HQ.out.below b2) HR.out hsz HFX.out (by omega) hLl (by omega) (by omega) HTW).mono ?_
        rintro e w3 ⟨rfl, y, L3, ⟨_, _, ey, _⟩, pm, hq3, k3⟩
        have hB3 : Below w.heap.size w w3 := hB2.trans k3.below
        have EY := Lib.hid ey
        have PM := Lib.hid pm
        have HQ3 := Lib.hid hq3
        have tb := tmod_bd x.num
        clear ey pm hq3 k3 p0 p1 p2 p3 p4 p5 p6
        have p5 : w3.cell? ⟨g, off + k * 7 + 5, none⟩ = some (.int .i64 x.num) := ND.out w3 5 (by omega) hB3
        go_wp2_with fail
        go_roundg (n - (k + 1))
        case measure => have := HGK.out; omega
        case rel =>
          have hl3 : L3.length = L.length + 1 := by rw [PM.out.length_eq]; simp
          have hs3 : sumN L3 = sumN L + x.num.tmod 1000 := by rw [sumN_perm PM.out, sumN_snoc, EY.out]
          exact ⟨k + 1, L3, by omega, rfl, by omega, by rw [hs3], by rw [hl3]; go_num, by go_num, by rw [hl3]; exact HQ3.out, hB3⟩
      · have HL := Lib.hid hlg
        clear hlg
        go_wp2_with fail
        with_reducible refine (long_q true HL.out HOK.out.len hlx.1 hlx.2).mono ?_
        rintro e w2 ⟨rfl, b2⟩
        clear p0 p1 p2 p3 p4 p5 p6
        go_wp2_with fail
        go_roundg (n - (k + 1))
        case measure => have := HGK.out; omega
        case rel => exact ⟨k + 1, L, by omega, rfl, by omega, rfl, rfl, by go_num, HQ.out.below b2, below_trans hB b2⟩
    · obtain ⟨N, eN⟩ : ∃ N, N = L.length := ⟨_, rfl⟩
      have EN := Lib.hid eN
      rw [← eN]
      obtain ⟨W, hW, x7, hB7⟩ := boxes1 wr #[.bool false, .slice none 0 0, .bool false, .slice none 0 0, .int .i64 0, .int .i64 0, .slice none 0 0] 44
      obtain ⟨b7, hb7⟩ : ∃ b, b = wr.heap.size := ⟨_, rfl⟩
      have hst : O2 w qb b7 N L.length (.int .i64 (sumN L)) (.int .i64 ((0 : Nat) : Int)) W := ⟨0, L, itZ, by rw [eN]; omega, rfl, rfl, rfl, by rw [eN]; exact HQ.out.below hB7, by rw [hb7]; exact x7, rz _, (fun h => absurd h (by omega)), below_trans hB hB7⟩
      have HST := Lib.hid hst
      have hb7w : w.heap.size ≤ b7 := by rw [hb7]; exact hB.size
      have hN3 : N ≤ 300 := by omega
      have hqb7 : qb < b7 := by obtain ⟨_, _, h, _⟩ := HQ.out.at_; have := h.lt; omega
      clear hst x7 eN HQ sb hLs
      go_wp2_with fail
      rw [← hW, ← hb7]
      clear hW hb7 hB hB7
      go_loopg [4, 8] L.length (fun gk s4 s8 wr => O2 w qb b7 N gk s4 s8 wr)
      case atStart => exact HST.out
      case round =>
        clear HST
        obtain ⟨i, L2, x, hiN, hgk, rfl, rfl, hq, hx7, hr, hnx, hB⟩ := hrel
        have HX7 := Lib.hid hx7
        have HGK := Lib.hid hgk
        have HNX := Lib.hid hnx
        have HQ := Lib.hid hq
        have HIN := Lib.hid hiN
        have sb := sumN_bd L2
        have hil : i ≤ N := by omega
        have hl2 : L2.length ≤ 300 := by omega
        clear hx7 hgk hnx hq
        by_cases hlt2 : i < N
        · obtain ⟨m, hm⟩ : ∃ m, L2.length = m + 1 := ⟨L2.length - 1, by omega⟩
          have HM := Lib.hid hm
          have i1 : (i : Int) < (N : Int) := by omega
          clear hiN hm
          go_wp2_with fail
          with_reducible refine (pop_q HQ.out (m := m) HM.out).mono ?_
          rintro e w3 ⟨y, L3, rfl, pm, mn, hq3, ry, k3⟩
          have hB3 := hB.trans k3.below
          replace hr := hr.k k3.k64
          have HX7b := Lib.hid (k3.far _ _ _ (by decide) (by decide) HX7.out)
          have PM := Lib.hid pm
          have MN := Lib.hid mn
          have ss : sumN L2 = y.num.tmod 1000 + sumN L3 := by rw [sumN_perm pm]; rfl
          have SS := Lib.hid ss
          have tb := tmod_bd y.num
          have NX : Hid (0 < i → ¬ 0 < cmpQ x.q y.q ∧ (cmpQ x.q y.q = 0 → ¬ x.dep < y.dep ∧ (x.dep = y.dep → ¬ y.num < x.num))) := Lib.hid fun h0 => next_ok (HNX.out h0 y (pm.mem_iff.2 List.mem_cons_self))
          clear pm mn ss k3 HX7 HNX HQ
          go_upto_region 18 with (fail)
          obtain ⟨V3, hW, x9, hN9⟩ := boxes1 w3 #[.bool y.s, .slice y.A y.l y.c, .bool y.s', .slice y.A' y.l' y.c', .int .i64 y.dep, .int .i64 y.num, .slice y.F y.fl y.fc] 44
          rw [← hW]
          clear hW
          obtain ⟨b9, hb9⟩ : ∃ b, b = w3.heap.size := ⟨_, rfl⟩
          rw [← hb9] at x9 ⊢
          have o79 : b7 < b9 := by have := HX7b.out.lt; omega
          have HX7 := Lib.hid (HX7b.out.below hN9)
          have HX9 := Lib.hid x9
          have HQ3 := Lib.hid (hq3.below hN9)
          replace hr := hr.below hN9
          replace ry := ry.below hN9
          have hB4 := below_trans hB3 hN9
          clear x9 hN9 hb9 hB hB3 hq3 HX7b
          obtain ⟨z, hz⟩ : ∃ z, cmpQ x.q y.q = z := ⟨_, rfl⟩
          have NX2 := NX.out
          rw [hz] at NX2
          have HZ := Lib.hid hz
          clear NX hz
          have p0 := HX7.out.cell 0 (.bool x.s) rfl
          have p1 := HX7.out.cell 1 (.slice x.A x.l x.c) rfl
          have p2 := HX7.out.cell 2 (.bool x.s') rfl
          have p3 := HX7.out.cell 3 (.slice x.A' x.l' x.c') rfl
          have r0 := HX9.out.cell 0 (.bool y.s) rfl
          have r1 := HX9.out.cell 1 (.slice y.A y.l y.c) rfl
          have r2 := HX9.out.cell 2 (.bool y.s') rfl
          have r3 := HX9.out.cell 3 (.slice y.A' y.l' y.c') rfl
          have RX := Lib.hid hr
          have RY0 := Lib.hid ry
          clear hr ry
          go_wp2_with fail
          with_reducible refine (cmp_q RX.out RY0.out (by omega) z HZ).mono ?_
          rintro e w5 ⟨rfl, b5⟩
          have X7 := Lib.hid (HX7.out.below b5)
          have X9 := Lib.hid (HX9.out.below b5)
          have Q5 := Lib.hid (HQ3.out.below b5)
          have RY := Lib.hid (RY0.out.below b5)
          have hB5 := below_trans hB4 b5
          have s2 := SS.out
          have sb3 := sumN_bd L3
          have hl3 : L3.length ≤ 300 := by have := PM.out.length_eq; simp at this; omega
          clear p0 p1 p2 p3 r0 r1 r2 r3 HX7 HX9 HQ3 RX RY0 b5 hB4
          have p0 := X7.out.cell 0 (.bool x.s) rfl
          have p1 := X7.out.cell 1 (.slice x.A x.l x.c) rfl
          have p2 := X7.out.cell 2 (.bool x.s') rfl
          have p3 := X7.out.cell 3 (.slice x.A' x.l' x.c') rfl
          have p4 := X7.out.cell 4 (.int .i64 x.dep) rfl
          have p5 := X7.out.cell 5 (.int .i64 x.num) rfl
          have p6 := X7.out.cell 6 (.slice x.F x.fl x.fc) rfl
          have r0 := X9.out.cell 0 (.bool y.s) rfl
          have r1 := X9.out.cell 1 (.slice y.A y.l y.c) rfl
          have r2 := X9.out.cell 2 (.bool y.s') rfl
          have r3 := X9.out.cell 3 (.slice y.A' y.l' y.c') rfl
          have r4 := X9.out.cell 4 (.int .i64 y.dep) rfl
          have r5 := X9.out.cell 5 (.int .i64 y.num) rfl
          have r6 := X9.out.cell 6 (.slice y.F y.fl y.fc) rfl
          have f0 := X7.out.frozen 0
          have f1 := X7.out.frozen 1
          have f2 := X7.out.frozen 2
          have f3 := X7.out.frozen 3
          have f4 := X7.out.frozen 4
          have f5 := X7.out.frozen 5
          have f6 := X7.out.frozen 6
          have y7 := X7.out.lt
          have hcs : i = 0 ∨ (0 < i ∧ z < 0) ∨ (0 < i ∧ z = 0 ∧ x.dep ≠ y.dep) ∨ (0 < i ∧ z = 0 ∧ x.dep = y.dep) := by
            by_cases h0 : i = 0
            · exact .inl h0
            · have h1 := (NX2 (by omega)).1; by_cases h2 : z = 0
              · by_cases h3 : x.dep = y.dep
                · exact .inr (.inr (.inr ⟨by omega, h2, h3⟩))
                · exact .inr (.inr (.inl ⟨by omega, h2, h3⟩))
              · exact .inr (.inl ⟨by omega, by omega⟩)
          rcases hcs with hi | hi | hi | hi
          · have g0 : decide ((0 : Int) < (i : Int)) = false := by rw [hi]; rfl
            have g1 : ¬ (0 : Int) < (i : Int) := by omega
            have g2 : ¬ 0 < i := by omega
            have g3 : i = 0 := hi
            try clear n3
            clear NX2 hi HZ
            go_wp2_with fail
            obtain ⟨V6, hV6, x6, kk, far, bel⟩ := store7 (.bool y.s) (.slice y.A y.l y.c) (.bool y.s') (.slice y.A' y.l' y.c') (.int .i64 y.dep) (.int .i64 y.num) (.slice y.F y.fl y.fc) X7.out (fun _ e => by cases e) (fun _ e => by cases e) (fun _ e => by cases e) (fun _ e => by cases e) (fun _ e => by cases e) (fun _ e => by cases e) (fun _ e => by cases e)
            have gg : w5.grownBy V6 (some b7) := by rw [hV6]; exact grown_set (grown_set (grown_set (grown_set (grown_set (grown_set (grown_set (grownBy_refl w5 (some b7)) (.inl rfl) _) (.inl rfl) _) (.inl rfl) _) (.inl rfl) _) (.inl rfl) _) (.inl rfl) _) (.inl rfl) _
            rw [← hV6]
            clear hV6
            go_roundg L3.length
            case measure => have := HGK.out; have := PM.out.length_eq; simp at this; omega
            case rel => exact ⟨i + 1, L3, y, by have := HIN.out; have := PM.out.length_eq; simp at this; omega, rfl, by have := SS.out; congr 1; omega, by go_num, Q5.out.kept gg kk (x := b7) (by omega) (by decide) X7.out, x6, RY.out.k kk, fun _ => MN.out, bel _ _ hb7w hB5⟩
          · have g0 : decide ((0 : Int) < (i : Int)) = true := by have := hi.1; simp; omega
            have k0 := hi.1
            have k1 : (0 : Int) < (i : Int) := by omega
            have g1 : decide ((0 : Int) < z) = false := by have := hi.2; simp; omega
            have g2 : (z == 0) = false := by have := hi.2; simp; omega
            have k2 : ¬ (0 : Int) < z := by omega
            have k3 : z ≠ 0 := by omega
            try clear n3
            clear NX2 hi HZ
            go_wp2_with fail
            obtain ⟨V6, hV6, x6, kk, far, bel⟩ := store7 (.bool y.s) (.slice y.A y.l y.c) (.bool y.s') (.slice y.A' y.l' y.c') (.int .i64 y.dep) (.int .i64 y.num) (.slice y.F y.fl y.fc) X7.out (fun _ e => by cases e) (fun _ e => by cases e) (fun _ e => by cases e) (fun _ e => by cases e) (fun _ e => by cases e) (fun _ e => by cases e) (fun _ e => by cases e)
            have gg : w5.grownBy V6 (some b7) := by rw [hV6]; exact grown_set (grown_set (grown_set (grown_set (grown_set (grown_set (grown_set (grownBy_refl w5 (some b7)) (.inl rfl) _) (.inl rfl) _) (.inl rfl) _) (.inl rfl) _) (.inl rfl) _) (.inl rfl) _) (.inl rfl) _
            rw [← hV6]
            clear hV6
            go_roundg L3.length
            case measure => have := HGK.out; have := PM.out.length_eq; simp at this; omega
            case rel => exact ⟨i + 1, L3, y, by have := HIN.out; have := PM.out.length_eq; simp at this; omega, rfl, by have := SS.out; congr 1; omega, by go_num, Q5.out.kept gg kk (x := b7) (by omega) (by decide) X7.out, x6, RY.out.k kk, fun _ => MN.out, bel _ _ hb7w hB5⟩
          · have g0 : decide ((0 : Int) < (i : Int)) = true := by have := hi.1; simp; omega
            have k0 := hi.1
            have k1 : (0 : Int) < (i : Int) := by omega
            obtain rfl : z = 0 := hi.2.1
            have n3 := (NX2 hi.1).2 rfl
            have g3 : decide (x.dep < y.dep) = false := by simp; omega
            have g4 : (x.dep == y.dep) = false := by simpa using hi.2.2
            try clear n3
            clear NX2 hi HZ
            go_wp2_with fail
            obtain ⟨V6, hV6, x6, kk, far, bel⟩ := store7 (.bool y.s) (.slice y.A y.l y.c) (.bool y.s') (.slice y.A' y.l' y.c') (.int .i64 y.dep) (.int .i64 y.num) (.slice y.F y.fl y.fc) X7.out (fun _ e => by cases e) (fun _ e => by cases e) (fun _ e => by cases e) (fun _ e => by cases e) (fun _ e => by cases e) (fun _ e => by cases e) (fun _ e => by cases e)
            have gg : w5.grownBy V6 (some b7) := by rw [hV6]; exact grown_set (grown_set (grown_set (grown_set (grown_set (grown_set (grown_set (grownBy_refl w5 (some b7)) (.inl rfl) _) (.inl rfl) _) (.inl rfl) _) (.inl rfl) _) (.inl rfl) _) (.inl rfl) _) (.inl rfl) _
            rw [← hV6]
            clear hV6
            go_roundg L3.length
            case measure => have := HGK.out; have := PM.out.length_eq; simp at this; omega
            case rel => exact ⟨i + 1, L3, y, by have := HIN.out; have := PM.out.length_eq; simp at this; omega, rfl, by have := SS.out; congr 1; omega, by go_num, Q5.out.kept gg kk (x := b7) (by omega) (by decide) X7.out, x6, RY.out.k kk, fun _ => MN.out, bel _ _ hb7w hB5⟩
          · have g0 : decide ((0 : Int) < (i : Int)) = true := by have := hi.1; simp; omega
            have k0 := hi.1
            have k1 : (0 : Int) < (i : Int) := by omega
            obtain rfl : z = 0 := hi.2.1
            have n3 := (NX2 hi.1).2 rfl
            have g3 : decide (x.dep < y.dep) = false := by simp; omega
            have g4 : (x.dep == y.dep) = true := by simpa using hi.2.2
            have g5 : decide (y.num < x.num) = false := by have := n3.2 hi.2.2; simp; omega
            try clear n3
            clear NX2 hi HZ
            go_wp2_with fail
            obtain ⟨V6, hV6, x6, kk, far, bel⟩ := store7 (.bool y.s) (.slice y.A y.l y.c) (.bool y.s') (.slice y.A' y.l' y.c') (.int .i64 y.dep) (.int .i64 y.num) (.slice y.F y.fl y.fc) X7.out (fun _ e => by cases e) (fun _ e => by cases e) (fun _ e => by cases e) (fun _ e => by cases e) (fun _ e => by cases e) (fun _ e => by cases e) (fun _ e => by cases e)
            have gg : w5.grownBy V6 (some b7) := by rw [hV6]; exact grown_set (grown_set (grown_set (grown_set (grown_set (grown_set (grown_set (grownBy_refl w5 (some b7)) (.inl rfl) _) (.inl rfl) _) (.inl rfl) _) (.inl rfl) _) (.inl rfl) _) (.inl rfl) _) (.inl rfl) _
            rw [← hV6]
            clear hV6
            go_roundg L3.length
            case measure => have := HGK.out; have := PM.out.length_eq; simp at this; omega
            case rel => exact ⟨i + 1, L3, y, by have := HIN.out; have := PM.out.length_eq; simp at this; omega, rfl, by have := SS.out; congr 1; omega, by go_num, Q5.out.kept gg kk (x := b7) (by omega) (by decide) X7.out, x6, RY.out.k kk, fun _ => MN.out, bel _ _ hb7w hB5⟩
        · have e0 : L2 = [] := List.length_eq_zero_iff.1 (by omega)
          subst e0
          have iN : ¬ (i : Int) < (N : Int) := by omega
          rw [show sumN [] = 0 from rfl]
          clear sb HNX HX7 hr
          go_wp2_with fail
          with_reducible refine (pop_e HQ.out).mono ?_
          rintro e w3 ⟨rfl, b3⟩
          have hB3 := below_trans hB b3
          have HQ3 := Lib.hid (HQ.out.below b3)
          clear b3 hB HQ
          go_upto_region 26 with (fail)
          obtain ⟨V3, hW, x9, hN9⟩ := boxes1 w3 #[.bool false, .slice none 0 0, .bool false, .slice none 0 0, .int .i64 0, .int .i64 0, .slice none 0 0] 44
          rw [← hW]
          clear hW
          have HQ4 := Lib.hid (HQ3.out.below hN9)
          have hB4 := below_trans hB3 hN9
          clear x9 hN9 HQ3 hB3
          go_wp2_with fail
          with_reducible refine (len_q HQ4.out 0 rfl).mono ?_
          rintro e w5 ⟨rfl, b5⟩
          have hB5 := below_trans hB4 b5
          have HT5 := Lib.hid (Tab.below hT.out hB5)
          clear b5 hB4 HQ4
          go_wp2_with fail
          with_reducible refine (awake24 HT5).mono ?_
          rintro e w6 ⟨rfl, b6⟩
          go_wp2_with fail
          (try simp only [Exit.inBlock, Exit.then])
          refine bodyPost_ret (by simp [results, Tryd.results5, go_sem]; try rfl) rfl ?_
          exact ⟨rfl, below_trans hB5 b6⟩
end Go.Proofs.YtihdaemjabhhkaaDoor
