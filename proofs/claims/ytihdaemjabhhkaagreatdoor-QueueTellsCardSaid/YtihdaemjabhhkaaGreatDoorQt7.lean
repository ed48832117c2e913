/-
  QueueTells: the walk. Written by wip/gen/qt7.py.
-/
import Derived.Test.YtihdaemjabhhkaaGreatDoorQt6
import Derived.Deep.DeepCutAuto
namespace Go.Proofs.YtihdaemjabhhkaaGreatDoor
open Go.RowKit Tw Hp

theorem OwnR.farF {w w' : World} {B n size : Nat} {e : TypeId} {v : Value} {xs : List Value} (h : OwnR w B e size v n xs) (hk : ∀ b cs, Bx w b cs e → Bx w' b cs e) : OwnR w' B e size v n xs := by
  obtain ⟨h1, h2 | ⟨g, cap, cur, rfl, a2, a3, a4⟩⟩ := h
  · exact ⟨h1, .inl h2⟩
  · exact ⟨h1, .inr ⟨g, cap, cur, rfl, a2, hk g cur a3, a4⟩⟩
theorem QH.rk {w w' : World} {qb rb B B' : Nat} {c0 c2 v v' : Value} {L N : List Itm} (h : QH w qb B c0 c2 L) (hq : RQ w rb B' v N) (k : RK w w' rb B' v v') : QH w' qb B c0 c2 L := by
  obtain ⟨⟨H, cap, h1, h2⟩, h3, h4, h5, h6⟩ := h
  exact ⟨⟨H, cap, k.far _ _ _ (bx_ne (by decide) h1 hq.at_) (Ne.symm (own_ne hq.own (by decide) h1)) h1, h2.farF fun b cs hb => k.far _ _ _ (bx_ne (by decide) hb hq.at_) (Ne.symm (own_ne hq.own (by decide) hb)) hb⟩, h3, h4.k k.k64, h5, h6⟩
theorem RQ.qk {w w' : World} {rb B B' : Nat} {v : Value} {N : List Itm} (h : RQ w rb B v N) (k : QK w w' B') : RQ w' rb B v N :=
  ⟨k.far _ _ _ (by decide) (by decide) h.at_, h.own.farF fun b cs hb => k.far _ _ _ (by decide) (by decide) hb, h.ok.k k.k64, h.base, h.small⟩
theorem RQ.kept {w w' : World} {rb B x : Nat} {v : Value} {N : List Itm} {cs : Array Value} {t : TypeId} (h : RQ w rb B v N) (hg : w.grownBy w' (some x)) (k : K64 w w') (hx : rb ≠ x) (ht : t ≠ 36) (hb : Bx w x cs t) : RQ w' rb B v N :=
  ⟨(hg.block rb h.at_.lt (by simpa using hx)).trans h.at_, h.own.kept hg (.inr (own_ne h.own ht hb)), h.ok.k k, h.base, h.small⟩
theorem Mt.kf {w w' : World} {L N : List Itm} {tn : Int} (h : Mt (Kw w) L N tn) (k : KeepF w w') : Mt (Kw w') L N tn := h.imp fun _ _ _ _ hk => hk.kf k
/-- A state between two operations. -/
def QS (w : World) (qb rb k : Nat) (wr : World) : Prop := ∃ (L N : List Itm) (v : Value) (tn : Nat), L.length ≤ k ∧ tn ≤ k ∧ QH wr qb w.heap.size (.pointer (some ⟨qb, 0, none⟩)) (.int .i64 (tn : Int)) L ∧ RQ wr rb w.heap.size v N ∧ Mt (Kw wr) L N (tn : Int) ∧ Below w.heap.size w wr
theorem QS.below {w wr w' : World} {qb rb k : Nat} (h : QS w qb rb k wr) (hb : Below wr.heap.size wr w') : QS w qb rb k w' := by
  obtain ⟨L, N, v, tn, h1, h2, h3, h4, h5, h6⟩ := h
  exact ⟨L, N, v, tn, h1, h2, h3.below hb, h4.below hb, h5.kf (KeepF.of_below hb), below_trans h6 hb⟩
theorem QS.up {w wr : World} {qb rb k k' : Nat} (h : QS w qb rb k wr) (hk : k ≤ k') : QS w qb rb k' wr := by
  obtain ⟨L, N, v, tn, h1, h2, h3⟩ := h
  exact ⟨L, N, v, tn, by omega, by omega, h3⟩
/-- A state of the loop. -/
def QT1 (w : World) (qb rb n gk : Nat) (s5 : Value) (wr : World) : Prop := ∃ k, k ≤ n ∧ n - k = gk ∧ s5 = .int .i64 (k : Int) ∧ QS w qb rb k wr
/-- A state of the loop in which what was handed in is turned. -/
def QT2 (w : World) (qb rb b11 : Nat) (cs : Array Value) (F : Option Addr) (L N : List Itm) (v : Value) (tn fl gk : Nat) (s : Value) (wr : World) : Prop :=
  ∃ i : Nat, i ≤ fl ∧ fl - i = gk ∧ s = .int .i64 (i : Int) ∧ Below w.heap.size w wr ∧ Bx wr b11 cs 36 ∧ QH wr qb w.heap.size (.pointer (some ⟨qb, 0, none⟩)) (.int .i64 (tn : Int)) L ∧ RQ wr rb w.heap.size v N ∧ Mt (Kw wr) L N (tn : Int) ∧
    (0 < fl → ∃ gi cur, F = some ⟨gi, 0, none⟩ ∧ Bx wr gi cur 47 ∧ (∀ j, j < fl * 2 → ∃ t : Int, cur[j]? = some (.int .i64 t)) ∧ Mt (Kx wr gi) L N (tn : Int) ∧ w.heap.size ≤ gi)
set_option maxRecDepth 100000 in
set_option maxHeartbeats 16000000 in
theorem tells_q {w : World} {F : Option Addr} {len cap n : Nat} (_hl : len ≤ cap) (_hc : cap ≤ 9223372036854775807) (hn : n ≤ 300) (hnl : n ≤ len) (hn2 : n < 300 → len ≤ n)
    (hN : Hid (0 < n → ∃ g off, F = some ⟨g, off, none⟩ ∧ ∀ i, i < n → ∃ p x, OpAt w g off i p x ∧ NdOk w x)) (hT : Hid (Tab w)) :
    Calls Tryz.prog 3 #[.slice F len cap] w fun e w' => e = .returned (.bool true) ∧ Below w.heap.size w w' := by
  go_enter Tryz.func3, Tryz.ntmps3
  go_wp2_with fail
  with_reducible refine new_q.mono ?_
  rintro e w1 ⟨qb, rfl, hqb, hq1, b1⟩
  obtain ⟨W1, hW, xr, hBr⟩ := boxes1 w1 #[.slice none 0 0] 28
  obtain ⟨rb, hrb⟩ : ∃ b, b = w1.heap.size := ⟨_, rfl⟩
  rw [← hrb] at xr
  have hst : QT1 w qb rb n n (.int .i64 ((0 : Nat) : Int)) W1 := ⟨0, Nat.zero_le _, rfl, rfl, [], [], .slice none 0 0, 0, Nat.le_refl _, Nat.le_refl _, hq1.below hBr, ⟨xr, OwnR.nil _ _ _ _, (fun _ h => (by cases h)), by rw [hrb]; exact b1.size, by simp⟩, Mt.nil _, below_trans b1 hBr⟩
  have HST := Lib.hid hst
  clear hst hq1 xr
  go_wp2_with fail
  rw [← hW, ← hrb]
  clear hW hrb hBr b1
  go_loopg [5] n (fun gk s5 wr => QT1 w qb rb n gk s5 wr)
  case atStart => exact HST.out
  case round =>
    clear HST
    obtain ⟨k, hk, hgk, rfl, hqs⟩ := hrel
    have HQS := Lib.hid hqs
    have HGK := Lib.hid hgk
    have HB := Lib.hid (by obtain ⟨_, _, _, _, _, _, _, _, _, h⟩ := hqs; exact h : Below w.heap.size w wr)
    clear hqs hgk
    by_cases hlt : k < n
    · obtain ⟨g, off, rfl, hX⟩ := hN.out (by omega)
      obtain ⟨p, x, hop, hok⟩ := hX k hlt
      have HOP := Lib.hid (hop.below HB.out)
      have HOK := Lib.hid hok
      have hlx : x.l ≤ maxLen ∧ x.l' ≤ maxLen := by have h1 := hok.rat.1.2; have h2 := hok.rat.2.2; unfold maxLen; omega
      have i1 : (k : Int) < (len : Int) := by omega
      have i2 : (0 : Int) ≤ (k : Int) := by omega
      have i3 : (k : Int) < 300 := by omega
      clear hX hop hok
      have p0 := HOP.out.c0
      have p1 := HOP.out.at 1 (.bool x.s) rfl
      have p2 := HOP.out.at 2 (.slice x.A x.l x.c) rfl
      have p3 := HOP.out.at 3 (.bool x.s') rfl
      have p4 := HOP.out.at 4 (.slice x.A' x.l' x.c') rfl
      have p5 := HOP.out.at 5 (.int .i64 x.dep) rfl
      have p6 := HOP.out.at 6 (.int .i64 x.num) rfl
      have p7 := HOP.out.at 7 (.slice x.F x.fl x.fc) rfl
      go_upto_region 6 with (fail)
      obtain ⟨W6, hV, xv, hN⟩ := boxes1 wr #[.bool p, .bool x.s, .slice x.A x.l x.c, .bool x.s', .slice x.A' x.l' x.c', .int .i64 x.dep, .int .i64 x.num, .slice x.F x.fl x.fc] 38
      rw [← hV]
      clear hV
      obtain ⟨b6, hb⟩ : ∃ b, b = wr.heap.size := ⟨_, rfl⟩
      rw [← hb] at xv ⊢
      have HX6 := Lib.hid xv
      have HBb6 := Lib.hid hb
      clear xv hb
      replace HQS := Lib.hid (HQS.out.below hN)
      replace HB := Lib.hid (below_trans HB.out hN)
      clear hN HBb6 HOP p0 p1 p2 p3 p4 p5 p6 p7
      have q0 := HX6.out.cell 0 (.bool p) rfl
      have q1 := HX6.out.cell 1 (.bool x.s) rfl
      have q2 := HX6.out.cell 2 (.slice x.A x.l x.c) rfl
      have q3 := HX6.out.cell 3 (.bool x.s') rfl
      have q4 := HX6.out.cell 4 (.slice x.A' x.l' x.c') rfl
      have q5 := HX6.out.cell 5 (.int .i64 x.dep) rfl
      have q6 := HX6.out.cell 6 (.int .i64 x.num) rfl
      have q7 := HX6.out.cell 7 (.slice x.F x.fl x.fc) rfl
      cases hlg : longB x.fl x.l x.l'
      · have HL := Lib.hid hlg
        clear hlg
        go_wp2_with fail
        with_reducible refine (long_q false HL.out HOK.out.len hlx.1 hlx.2).mono ?_
        rintro e w2 ⟨rfl, b2⟩
        replace HX6 := Lib.hid (HX6.out.below b2)
        replace HQS := Lib.hid (HQS.out.below b2)
        replace HB := Lib.hid (below_trans HB.out b2)
        have hb4 : x.fl ≤ 1000 ∧ x.l ≤ 4 ∧ x.l' ≤ 4 := by have := HL.out; simp [longB] at this; omega
        clear b2 q0 q1 q2 q3 q4 q5 q6 q7
        have q0 := HX6.out.cell 0 (.bool p) rfl
        have q1 := HX6.out.cell 1 (.bool x.s) rfl
        have q2 := HX6.out.cell 2 (.slice x.A x.l x.c) rfl
        have q3 := HX6.out.cell 3 (.bool x.s') rfl
        have q4 := HX6.out.cell 4 (.slice x.A' x.l' x.c') rfl
        have q5 := HX6.out.cell 5 (.int .i64 x.dep) rfl
        have q6 := HX6.out.cell 6 (.int .i64 x.num) rfl
        have q7 := HX6.out.cell 7 (.slice x.F x.fl x.fc) rfl
        go_upto_if 38 with (fail)
        go_cut [] (fun wx => QS w qb rb (k + 1) wx)
        case first =>
          obtain ⟨L, N, v, tn, hL, htn, hq, hr, hm, hBw⟩ := HQS.out
          have HQ := Lib.hid hq
          have HR := Lib.hid hr
          have HM := Lib.hid hm
          have hlen := hm.len
          have hNs : N.length ≤ 300 := by omega
          have HLN := Lib.hid hlen
          have hqlt : qb < w2.heap.size := by obtain ⟨_, _, h, _⟩ := hq.at_; exact h.lt
          have hrlt : rb < w2.heap.size := hr.at_.lt
          have hvlt := Lib.hid hr.own.lt
          clear hq hr hm hlen HQS hBw
          cases p
          · obtain ⟨q, hr0⟩ := InR.r (m := 8) (show InR w2 x.s x.A x.l x.c x.s' x.A' x.l' x.c' from ⟨HOK.out.rat.1.below HB.out, HOK.out.rat.2.below HB.out⟩) (by omega) (by omega)
            obtain ⟨ps, hfx0⟩ := HOK.out.fix
            have hfx := hfx0.below HB.out
            have hsz : sz q ≤ 8 := Nat.le_trans hr0.sz (by omega)
            have HRX := Lib.hid hr0
            have HFX := Lib.hid hfx
            have HFX0 := Lib.hid hfx0
            clear hr0 hfx hfx0
            go_wp2_with fail
            with_reducible refine (copy_r HRX.out HFX.out (by omega) (by omega)).mono ?_
            rintro e w3 ⟨s1, A1, c1, l1, s1r, A1r, c1r, l1r, F1, fc1, rfl, h1, f1, b3⟩
            have HB0 := Lib.hid HB.out
            have HF10 := Lib.hid f1
            replace HX6 := Lib.hid (HX6.out.below b3)
            replace HQ := Lib.hid (HQ.out.below b3)
            replace HR := Lib.hid (HR.out.below b3)
            replace HRX := Lib.hid (HRX.out.below b3)
            replace HFX := Lib.hid (HFX.out.below b3)
            have hmx : ∀ gi, w2.heap.size ≤ gi → Mt (Kx w3 gi) L N (tn : Int) := fun gi hgi => HM.out.imp fun _ _ _ _ hk => (hk.kx hgi).kf (KeepF.of_below b3)
            have HMX := Lib.hid hmx
            replace HM := Lib.hid (HM.out.kf (KeepF.of_below b3))
            replace HB := Lib.hid (below_trans HB.out b3)
            have H1 := Lib.hid h1
            have HF1 := Lib.hid f1
            have hs23 := b3.size
            clear h1 f1 b3 hmx q0 q1 q2 q3 q4 q5 q6 q7
            have q1 := HX6.out.cell 1 (.bool x.s) rfl
            have q2 := HX6.out.cell 2 (.slice x.A x.l x.c) rfl
            have q3 := HX6.out.cell 3 (.bool x.s') rfl
            have q4 := HX6.out.cell 4 (.slice x.A' x.l' x.c') rfl
            have q5 := HX6.out.cell 5 (.int .i64 x.dep) rfl
            have q6 := HX6.out.cell 6 (.int .i64 x.num) rfl
            have q7 := HX6.out.cell 7 (.slice x.F x.fl x.fc) rfl
            go_upto_region 13 with (fail)
            obtain ⟨W11, hV, xv, hN⟩ := boxes1 w3 #[.bool s1, .slice A1 l1 c1, .bool s1r, .slice A1r l1r c1r, .int .i64 x.dep, .int .i64 x.num, .slice F1 x.fl fc1] 36
            rw [← hV]
            clear hV
            obtain ⟨b11, hb⟩ : ∃ b, b = w3.heap.size := ⟨_, rfl⟩
            rw [← hb] at xv ⊢
            have HX11 := Lib.hid xv
            have HBb11 := Lib.hid hb
            clear xv hb
            replace HX6 := Lib.hid (HX6.out.below hN)
            replace HQ := Lib.hid (HQ.out.below hN)
            replace HR := Lib.hid (HR.out.below hN)
            replace HRX := Lib.hid (HRX.out.below hN)
            replace HFX := Lib.hid (HFX.out.below hN)
            replace HMX : Hid (∀ gi, w2.heap.size ≤ gi → Mt (Kx W11 gi) L N (tn : Int)) := Lib.hid fun gi hgi => (HMX.out gi hgi).imp fun _ _ _ _ hk => hk.kf (KeepF.of_below hN)
            replace HM := Lib.hid (HM.out.kf (KeepF.of_below hN))
            replace HB := Lib.hid (below_trans HB.out hN)
            replace H1 := Lib.hid (H1.out.below hN)
            replace HF1 := Lib.hid (HF1.out.below hN)
            have hs3 := hN.size
            have HTW := Lib.hid (Tab.below hT.out HB.out)
            clear hN q1 q2 q3 q4 q5 q6 q7
            have r0 := HX11.out.cell 0 (.bool s1) rfl
            have r1 := HX11.out.cell 1 (.slice A1 l1 c1) rfl
            have r2 := HX11.out.cell 2 (.bool s1r) rfl
            have r3 := HX11.out.cell 3 (.slice A1r l1r c1r) rfl
            have r4 := HX11.out.cell 4 (.int .i64 x.dep) rfl
            have r5 := HX11.out.cell 5 (.int .i64 x.num) rfl
            have r6 := HX11.out.cell 6 (.slice F1 x.fl fc1) rfl
            have hLl : L.length < 1000000 := by omega
            go_wp2_with fail
            with_reducible refine (push_q2 HQ.out (H1.out.r' (m := 8) hsz) (by omega) HF1.out.fx (by omega) hLl (by omega) (by omega) HTW).mono ?_
            rintro e w4 ⟨rfl, y, L4, ⟨y1, y2, y3, y4⟩, ⟨y5, fy⟩, pm, hq4, k4⟩
            have kf4 := KeepF.of_qk k4
            replace HX6 := Lib.hid (k4.far _ _ _ (by decide) (by decide) HX6.out)
            replace HX11 := Lib.hid (k4.far _ _ _ (by decide) (by decide) HX11.out)
            replace HR := Lib.hid (HR.out.qk k4)
            replace HRX := Lib.hid (HRX.out.k k4.k64)
            replace HFX := Lib.hid (HFX0.out.below (HB.out.trans k4.below))
            replace HMX : Hid (∀ gi, w2.heap.size ≤ gi → Mt (Kx w4 gi) L N (tn : Int)) := Lib.hid fun gi hgi => (HMX.out gi hgi).imp fun _ _ _ _ hk => hk.kf kf4
            replace HM := Lib.hid (HM.out.kf kf4)
            replace HF1 := Lib.hid (HF1.out.kf kf4)
            replace HB := Lib.hid (HB.out.trans k4.below)
            have HQ4 := Lib.hid hq4
            have PM := Lib.hid pm
            have HFY := Lib.hid fy
            have Y1 := Lib.hid y1
            have Y2 := Lib.hid y2
            have Y3 := Lib.hid y3
            have Y4 := Lib.hid y4
            have Y5 := Lib.hid y5
            have hs4 := k4.below.size
            have hrlt4 : rb < w4.heap.size := HR.out.at_.lt
            have hv4 : Hid (∀ g, v.ownBlock = some g → g < w3.heap.size) := Lib.hid fun g hg => Nat.lt_of_lt_of_le (hvlt.out g hg) hs23
            clear hq4 pm fy y1 y2 y3 y4 y5 k4 kf4 HQ hvlt H1 r0 r1 r2 r3 r4 r5 r6
            have q1 := HX6.out.cell 1 (.bool x.s) rfl
            have q2 := HX6.out.cell 2 (.slice x.A x.l x.c) rfl
            have q3 := HX6.out.cell 3 (.bool x.s') rfl
            have q4 := HX6.out.cell 4 (.slice x.A' x.l' x.c') rfl
            have q5 := HX6.out.cell 5 (.int .i64 x.dep) rfl
            have q6 := HX6.out.cell 6 (.int .i64 x.num) rfl
            have q7 := HX6.out.cell 7 (.slice x.F x.fl x.fc) rfl
            go_wp2_with fail
            with_reducible refine (push_r (tn : Int) HR.out HRX.out (by omega) HFX.out (by omega) (by omega)).mono ?_
            rintro e w5 ⟨rfl, z, v5, ⟨z1, z2, z3, z4⟩, ⟨z5, fz⟩, hr5, k5⟩
            have kf5 := KeepF.of_rk k5 HR.out
            replace HX11 := Lib.hid (k5.far _ _ _ (by have := HBb11.out; omega) (fun e => by have := hv4.out _ e.symm; have := HBb11.out; omega) HX11.out)
            have smk : SmK y z := ⟨by rw [Y1.out, z1], by rw [Y2.out, z2], by rw [Y3.out, z3], by rw [Y4.out, z4], by rw [Y5.out, z5], by rw [Y5.out]; exact hb4.1⟩
            have kwn : Kw w5 y z := ⟨ps, (HFY.out.kf kf5).mono (Nat.zero_le _), fz.mono (Nat.zero_le _)⟩
            have hm5 : Mt (Kw w5) L4 (N ++ [z]) ((tn + 1 : Nat) : Int) := (HM.out.kf kf5).push PM.out smk kwn Y4.out
            have hf5 : 0 < x.fl → ∃ gi cur, F1 = some ⟨gi, 0, none⟩ ∧ Bx w5 gi cur 47 ∧ (∀ j, j < x.fl * 2 → ∃ t : Int, cur[j]? = some (.int .i64 t)) ∧ Mt (Kx w5 gi) L4 (N ++ [z]) ((tn + 1 : Nat) : Int) ∧ w.heap.size ≤ gi := fun hfl => by
              obtain ⟨hp, ⟨_, h2, _⟩ | ⟨gi, cur, e, hgb, hb, ht⟩⟩ := HF1.out.kf kf5
              · omega
              · have hgl : gi < w3.heap.size := by obtain ⟨_, ⟨h2, _⟩ | ⟨g', c', e', _, h4, _⟩⟩ := HF10.out
                                                   · rw [h2] at e; cases e
                                                   · rw [e'] at e; cases e; exact h4.lt
                refine ⟨gi, cur, e, hb, fun j hj => ?_, ?_, by have := HB0.out.size; omega⟩
                · have h1 : (cur.toList.take (x.fl * 2))[j]? = some (.int .i64 (ix ps j)) := by rw [ht, List.getElem?_map, List.getElem?_eq_getElem (by rw [hp]; exact hj), ix_get (by rw [hp]; exact hj)]; rfl
                  rw [List.getElem?_take, if_pos hj] at h1; exact ⟨_, by simpa using h1⟩
                · exact ((HMX.out gi hgb).imp fun _ _ _ _ hk => hk.kf kf5).push PM.out smk ⟨kwn, HFY.out.off' (by omega), fz.off' (by omega)⟩ Y4.out
            have hst2 : QT2 w qb rb b11 #[.bool s1, .slice A1 l1 c1, .bool s1r, .slice A1r l1r c1r, .int .i64 x.dep, .int .i64 x.num, .slice F1 x.fl fc1] F1 L4 (N ++ [z]) v5 (tn + 1) x.fl x.fl (.int .i64 ((0 : Nat) : Int)) w5 := ⟨0, Nat.zero_le _, rfl, rfl, HB.out.trans k5.below, HX11.out, HQ4.out.rk HR.out k5, hr5, hm5, hf5⟩
            have HS2 := Lib.hid hst2
            have hL4 : L4.length ≤ k + 1 := by have := PM.out.length_eq; simp at this; omega
            have p6 := HX11.out.cell 6 (.slice F1 x.fl fc1) rfl
            clear hst2 hf5 hm5 kwn smk z1 z2 z3 z4 z5 fz hr5 k5 kf5 HX11 HQ4 HR HM HMX HF1 HFY PM Y1 Y2 Y3 Y4 Y5 HX6 HRX HFX hv4 HB HB0 HF10 HFX0 q1 q2 q3 q4 q5 q6 q7
            go_wp2_with fail
            go_loopg [72] x.fl (fun gk s wr => QT2 w qb rb b11 #[.bool s1, .slice A1 l1 c1, .bool s1r, .slice A1r l1r c1r, .int .i64 x.dep, .int .i64 x.num, .slice F1 x.fl fc1] F1 L4 (N ++ [z]) v5 (tn + 1) x.fl gk s wr)
            case atStart => exact HS2.out
            case round =>
              clear HS2 p6
              obtain ⟨i, hi, hgk, rfl, hB2, x11, hq, hr, hm, hf⟩ := hrel
              have HX11 := Lib.hid x11
              have HQ := Lib.hid hq
              have HR := Lib.hid hr
              have HM := Lib.hid hm
              have HF := Lib.hid hf
              have HGK2 := Lib.hid hgk
              have HB2 := Lib.hid hB2
              clear x11 hq hr hm hf hgk hB2
              by_cases hlt2 : i < x.fl
              · obtain ⟨gi, cur, rfl, hb, hc, hmx, hgi⟩ := HF.out (by omega)
                obtain ⟨t, ht⟩ := hc (i * 2) (by omega)
                have HBX := Lib.hid hb
                have HC := Lib.hid hc
                have HMX := Lib.hid hmx
                have m6 := HX11.out.cell 6 (.slice (some ⟨gi, 0, none⟩) x.fl fc1) rfl
                have m0 := hb.cell (i * 2) (.int .i64 t) ht
                have f0 := hb.frozen (i * 2)
                have y0 := hb.lt
                have hne : b11 ≠ gi := bx_ne (by decide) HX11.out hb
                have j1 : (i : Int) < (x.fl : Int) := by omega
                have j2 : (0 : Int) ≤ (i : Int) := by omega
                clear hb hc hmx ht HF
                go_upto_region 19 with (fail)
                (try simp only [List.append_eq, List.cons_append, List.nil_append])
                refine wp_region_plan (.pure 0 (.take 1 (.pure 2 (.pure 3 (.pure 4 (.take 5 (.pure 6 (.pure 7 (.pure 8 (.only 9 .done)))))))))) [9] (fun w' => w'.cell? ⟨b11, 6, none⟩ = some (.slice (some ⟨gi, 0, none⟩) x.fl fc1) ∧ w'.cell? ⟨gi, i * 2, none⟩ = some (.int .i64 t)) (by kernel_rfl) (by kernel_rfl) ⟨m6, m0⟩ ?_
                refine wpPlan_pure (o := ⟨some 75, _, _, _, _, _⟩) (v := ?_) rfl rfl (fun w' => ?_) ?_
                rotate_left
                · go_simp <;> with_reducible rfl
                try simp only [Act.put, List.setIfInBounds_toArray, List.set_cons_zero, List.set_cons_succ]
                refine wpPlan_take (o := ⟨some 76, _, _, _, _, _⟩) (v := ?_) rfl rfl (fun w' hS => ?_) ?_
                rotate_left
                · obtain ⟨m6, m0⟩ := hS; go_simp <;> with_reducible rfl
                try simp only [Act.put, List.setIfInBounds_toArray, List.set_cons_zero, List.set_cons_succ]
                refine wpPlan_pure (o := ⟨some 77, _, _, _, _, _⟩) (v := ?_) rfl rfl (fun w' => ?_) ?_
                rotate_left
                · go_simp <;> with_reducible rfl
                try simp only [Act.put, List.setIfInBounds_toArray, List.set_cons_zero, List.set_cons_succ]
                refine wpPlan_pure (o := ⟨some 78, _, _, _, _, _⟩) (v := ?_) rfl rfl (fun w' => ?_) ?_
                rotate_left
                · go_simp <;> with_reducible rfl
                try simp only [Act.put, List.setIfInBounds_toArray, List.set_cons_zero, List.set_cons_succ]
                refine wpPlan_pure (o := ⟨some 79, _, _, _, _, _⟩) (v := ?_) rfl rfl (fun w' => ?_) ?_
                rotate_left
                · go_simp <;> with_reducible rfl
                try simp only [Act.put, List.setIfInBounds_toArray, List.set_cons_zero, List.set_cons_succ]
                refine wpPlan_take (o := ⟨some 80, _, _, _, _, _⟩) (v := ?_) rfl rfl (fun w' hS => ?_) ?_
                rotate_left
                · obtain ⟨m6, m0⟩ := hS; go_simp <;> with_reducible rfl
                try simp only [Act.put, List.setIfInBounds_toArray, List.set_cons_zero, List.set_cons_succ]
                refine wpPlan_pure (o := ⟨some 81, _, _, _, _, _⟩) (v := ?_) rfl rfl (fun w' => ?_) ?_
                rotate_left
                · go_simp <;> with_reducible rfl
                try simp only [Act.put, List.setIfInBounds_toArray, List.set_cons_zero, List.set_cons_succ]
                refine wpPlan_pure (o := ⟨some 82, _, _, _, _, _⟩) (v := ?_) rfl rfl (fun w' => ?_) ?_
                rotate_left
                · go_simp <;> with_reducible rfl
                try simp only [Act.put, List.setIfInBounds_toArray, List.set_cons_zero, List.set_cons_succ]
                refine wpPlan_pure (o := ⟨some 83, _, _, _, _, _⟩) (v := ?_) rfl rfl (fun w' => ?_) ?_
                rotate_left
                · go_simp <;> with_reducible rfl
                try simp only [Act.put, List.setIfInBounds_toArray, List.set_cons_zero, List.set_cons_succ]
                refine wpPlan_late (o := ⟨none, _, _, _, _, _⟩) rfl rfl (by decide) (fun K hK => ?_)
                go_simp
                refine hK.out _ _ ?_
                try simp only [Act.put, List.setIfInBounds_toArray, List.set_cons_zero, List.set_cons_succ]
                clear hK K
                refine wpPlan_done ?_
                obtain ⟨t2, ht2⟩ : ∃ t2, t2 = IntKind.i64.wrap (t + 1) := ⟨_, rfl⟩
                rw [← ht2]
                clear ht2
                obtain ⟨V, hV⟩ : ∃ V, V = (wr.setCell ⟨gi, i * 2, none⟩ (.int .i64 t2)).drew := ⟨_, rfl⟩
                rw [← hV]
                have gg : wr.grownBy V (some gi) := by rw [hV]; exact grown_drew (grown_set (grownBy_refl wr (some gi)) (.inl rfl) _)
                have kk : K64 wr V := by rw [hV]; exact (K64.set m0 (fun _ e => by cases e) _).trans (K64.below (Below.drew (Below.refl _ _)))
                have bb : Below w.heap.size w V := by rw [hV]; exact (HB2.out.setCell hgi _).drew
                have bx : Bx V gi (cur.setIfInBounds (i * 2) (.int .i64 t2)) 47 := by rw [hV]; exact (HBX.out.set (i * 2) _).drew
                have b11' : Bx V b11 #[.bool s1, .slice A1 l1 c1, .bool s1r, .slice A1r l1r c1r, .int .i64 x.dep, .int .i64 x.num, .slice (some ⟨gi, 0, none⟩) x.fl fc1] 36 := (gg.block b11 HX11.out.lt (by simpa using hne)).trans HX11.out
                have hmx := HMX.out.imp fun _ _ _ _ hk => hk.set gg
                have qbx : ∃ cs, Bx wr qb cs 108 := by obtain ⟨H, cap, h, _⟩ := HQ.out.at_; exact ⟨_, h⟩
                obtain ⟨qcs, qbx⟩ := qbx
                have hints : ∀ j, j < x.fl * 2 → ∃ t' : Int, (cur.setIfInBounds (i * 2) (.int .i64 t2))[j]? = some (.int .i64 t') := fun j hj => by
                  obtain ⟨t', ht'⟩ := HC.out j hj
                  have hlt := (Array.getElem?_eq_some_iff.1 ht').1
                  rw [Array.getElem?_setIfInBounds]
                  by_cases e : i * 2 = j
                  · rw [if_pos e, if_pos (by omega)]; exact ⟨t2, rfl⟩
                  · rw [if_neg e]; exact ⟨t', ht'⟩
                have hst3 : QT2 w qb rb b11 #[.bool s1, .slice A1 l1 c1, .bool s1r, .slice A1r l1r c1r, .int .i64 x.dep, .int .i64 x.num, .slice (some ⟨gi, 0, none⟩) x.fl fc1] (some ⟨gi, 0, none⟩) L4 (N ++ [z]) v5 (tn + 1) x.fl (x.fl - (i + 1)) (.int .i64 ((i + 1 : Nat) : Int)) V := ⟨i + 1, by omega, rfl, rfl, bb, b11', HQ.out.kept gg kk (x := gi) (bx_ne (by decide) qbx HBX.out) (by decide) HBX.out, HR.out.kept gg kk (x := gi) (bx_ne (by decide) HR.out.at_ HBX.out) (by decide) HBX.out, hmx.imp (fun _ _ _ _ hk => hk.1), fun _ => ⟨gi, _, rfl, bx, hints, hmx, hgi⟩⟩
                have HS3 := Lib.hid hst3
                clear hst3 hints hmx qbx b11' bx bb kk gg hV m0 m6 f0 y0
                go_wp2_with fail
                go_roundg (x.fl - (i + 1))
                case measure => have := HGK2.out; omega
                case rel => obtain ⟨i', h1, h2, h3, h4⟩ := HS3.out; exact ⟨i', h1, h2, by rw [← h3]; go_num, h4⟩
              · obtain rfl : i = x.fl := by omega
                have j1 : ¬ (x.fl : Int) < (x.fl : Int) := by omega
                go_wp2_with fail
                go_meet
                case rel => exact ⟨L4, N ++ [z], v5, tn + 1, hL4, by omega, HQ.out, HR.out, HM.out, HB2.out⟩
          · rcases Nat.eq_zero_or_pos L.length with h0 | h0
            · obtain rfl : L = [] := List.length_eq_zero_iff.1 h0
              have h0N : N.length = 0 := HLN.out.symm.trans h0
              have HR0 := Lib.hid HR.out
              clear HX6 q0 q1 q2 q3 q4 q5 q6 q7
              go_wp2_with fail
              with_reducible refine (pop_e HQ.out).mono ?_
              rintro e w3 ⟨rfl, b3⟩
              replace HR := Lib.hid (HR.out.below b3)
              go_upto_region 9 with (fail)
              obtain ⟨W7, hV, xv, hN⟩ := boxes1 w3 #[.bool false, .slice none 0 0, .bool false, .slice none 0 0, .int .i64 0, .int .i64 0, .slice none 0 0] 36
              rw [← hV]
              clear hV
              obtain ⟨b7, hb⟩ : ∃ b, b = w3.heap.size := ⟨_, rfl⟩
              rw [← hb] at xv ⊢
              have HX7 := Lib.hid xv
              have HBb7 := Lib.hid hb
              clear xv hb
              replace HR := Lib.hid (HR.out.below hN)
              have c23 := below_trans b3 hN
              clear b3 hN
              go_wp2_with fail
              with_reducible refine (pop_rn HR.out h0N).mono ?_
              rintro e w4 ⟨rfl, b4⟩
              replace HX7 := Lib.hid (HX7.out.below b4)
              have c24 := below_trans c23 b4
              clear b4 c23
              go_upto_region 10 with (fail)
              obtain ⟨W9, hV, xv, hN⟩ := boxes1 w4 #[.bool false, .slice none 0 0, .bool false, .slice none 0 0, .int .i64 0, .int .i64 0, .slice none 0 0] 36
              rw [← hV]
              clear hV
              obtain ⟨b9, hb⟩ : ∃ b, b = w4.heap.size := ⟨_, rfl⟩
              rw [← hb] at xv ⊢
              have HX9 := Lib.hid xv
              have HBb9 := Lib.hid hb
              clear xv hb
              replace HX7 := Lib.hid (HX7.out.below hN)
              have c25 := below_trans c24 hN
              clear hN c24
              have r0 := HX7.out.cell 0 (.bool false) rfl
              have r1 := HX7.out.cell 1 (.slice none 0 0) rfl
              have r2 := HX7.out.cell 2 (.bool false) rfl
              have r3 := HX7.out.cell 3 (.slice none 0 0) rfl
              have r4 := HX7.out.cell 4 (.int .i64 0) rfl
              have r5 := HX7.out.cell 5 (.int .i64 0) rfl
              have r6 := HX7.out.cell 6 (.slice none 0 0) rfl
              have s0 := HX9.out.cell 0 (.bool false) rfl
              have s1 := HX9.out.cell 1 (.slice none 0 0) rfl
              have s2 := HX9.out.cell 2 (.bool false) rfl
              have s3 := HX9.out.cell 3 (.slice none 0 0) rfl
              have s4 := HX9.out.cell 4 (.int .i64 0) rfl
              have s5 := HX9.out.cell 5 (.int .i64 0) rfl
              have s6 := HX9.out.cell 6 (.slice none 0 0) rfl
              go_wp2_with fail
              with_reducible refine (same_n7 (rz _) (rz _) (Lib.hid rfl) (Fx.nil _) (Fx.nil _) (by omega)).mono ?_
              rintro e w5 ⟨rfl, b5⟩
              go_wp2_with fail
              go_meet
              case rel =>
                have bb := below_trans c25 b5
                exact ⟨[], N, v, tn, by simp, by omega, HQ.out.below bb, HR0.out.below bb, HM.out.kf (KeepF.of_below bb), below_trans HB.out bb⟩
            · obtain ⟨m, hm⟩ : ∃ m, L.length = m + 1 := ⟨L.length - 1, by omega⟩
              have HMM := Lib.hid hm
              have h0N : 0 < N.length := by have := HLN.out; omega
              clear hm HX6 q0 q1 q2 q3 q4 q5 q6 q7
              go_wp2_with fail
              with_reducible refine (pop_q HQ.out (m := m) HMM.out).mono ?_
              rintro e w3 ⟨y, L3, rfl, pm, mn, hq3, ry, k3⟩
              replace HR := Lib.hid (HR.out.qk k3)
              replace HM := Lib.hid (HM.out.kf (KeepF.of_qk k3))
              replace HQ := Lib.hid hq3
              replace HB := Lib.hid (HB.out.trans k3.below)
              have PM := Lib.hid pm
              have MN := Lib.hid mn
              have hrlt3 : rb < w3.heap.size := HR.out.at_.lt
              have hv3 := Lib.hid HR.out.own.lt
              clear pm mn hq3 k3 hvlt
              go_upto_region 9 with (fail)
              obtain ⟨W7, hV, xv, hN⟩ := boxes1 w3 #[.bool y.s, .slice y.A y.l y.c, .bool y.s', .slice y.A' y.l' y.c', .int .i64 y.dep, .int .i64 y.num, .slice y.F y.fl y.fc] 36
              rw [← hV]
              clear hV
              obtain ⟨b7, hb⟩ : ∃ b, b = w3.heap.size := ⟨_, rfl⟩
              rw [← hb] at xv ⊢
              have HX7 := Lib.hid xv
              have HBb7 := Lib.hid hb
              clear xv hb
              replace HR := Lib.hid (HR.out.below hN)
              replace HM := Lib.hid (HM.out.kf (KeepF.of_below hN))
              replace HQ := Lib.hid (HQ.out.below hN)
              replace ry := ry.below hN
              replace HB := Lib.hid (below_trans HB.out hN)
              clear hN
              have RY := Lib.hid ry
              clear ry
              go_wp2_with fail
              with_reducible refine (pop_rs HR.out h0N).mono ?_
              rintro e w4 ⟨a, z, v4, ha, hfo, hz, rfl, hr4, k4⟩
              replace HX7 := Lib.hid (k4.far _ _ _ (by have := HBb7.out; omega) (fun e => by have := hv3.out _ e.symm; have := HBb7.out; omega) HX7.out)
              obtain ⟨⟨sm, kw⟩, hm4⟩ := HM.out.pop PM.out MN.out ha hfo
              rw [← hz] at sm kw
              have rz4 : R w4 z.s z.A z.c z.l z.s' z.A' z.c' z.l' z.q 20 := (HR.out.ok z (by rw [hz]; exact ix_mem ha)).k k4.k64
              replace RY := Lib.hid (RY.out.k k4.k64)
              have kf4 := KeepF.of_rk k4 HR.out
              replace kw := kw.kf kf4
              replace hm4 := hm4.kf kf4
              replace HQ := Lib.hid (HQ.out.rk HR.out k4)
              replace HB := Lib.hid (HB.out.trans k4.below)
              have HR4 := Lib.hid hr4
              have HM4 := Lib.hid hm4
              have KW := Lib.hid kw
              have RZ4 := Lib.hid rz4
              have SMM := Lib.hid sm
              clear hr4 hm4 kw rz4 sm k4 kf4 hz ha hfo HM HR hv3
              go_upto_region 10 with (fail)
              obtain ⟨W9, hV, xv, hN⟩ := boxes1 w4 #[.bool z.s, .slice z.A z.l z.c, .bool z.s', .slice z.A' z.l' z.c', .int .i64 z.dep, .int .i64 z.num, .slice z.F z.fl z.fc] 36
              rw [← hV]
              clear hV
              obtain ⟨b9, hb⟩ : ∃ b, b = w4.heap.size := ⟨_, rfl⟩
              rw [← hb] at xv ⊢
              have HX9 := Lib.hid xv
              have HBb9 := Lib.hid hb
              clear xv hb
              replace HX7 := Lib.hid (HX7.out.below hN)
              replace HQ := Lib.hid (HQ.out.below hN)
              replace HR4 := Lib.hid (HR4.out.below hN)
              replace HM4 := Lib.hid (HM4.out.kf (KeepF.of_below hN))
              replace KW := Lib.hid (KW.out.kf (KeepF.of_below hN))
              replace RY := Lib.hid (RY.out.below hN)
              replace RZ4 := Lib.hid (RZ4.out.below hN)
              replace HB := Lib.hid (below_trans HB.out hN)
              clear hN
              obtain ⟨e1, e2, e3, _, e5, e6⟩ := SMM.out
              obtain ⟨ps, f1, f2⟩ := KW.out
              rw [← e5] at f2
              have F1 := Lib.hid f1.fx
              have F2 := Lib.hid f2.fx
              have E1 := Lib.hid e1
              have r0 := HX7.out.cell 0 (.bool y.s) rfl
              have s4 : W9.cell? ⟨b9, 4, none⟩ = some (.int .i64 y.dep) := by rw [e2]; exact HX9.out.cell 4 (.int .i64 z.dep) rfl
              have s5 : W9.cell? ⟨b9, 5, none⟩ = some (.int .i64 y.num) := by rw [e3]; exact HX9.out.cell 5 (.int .i64 z.num) rfl
              have s6 : W9.cell? ⟨b9, 6, none⟩ = some (.slice z.F y.fl z.fc) := by rw [e5]; exact HX9.out.cell 6 (.slice z.F z.fl z.fc) rfl
              clear e1 e2 e3 e5 f1 f2 KW SMM
              have r1 := HX7.out.cell 1 (.slice y.A y.l y.c) rfl
              have r2 := HX7.out.cell 2 (.bool y.s') rfl
              have r3 := HX7.out.cell 3 (.slice y.A' y.l' y.c') rfl
              have r4 := HX7.out.cell 4 (.int .i64 y.dep) rfl
              have r5 := HX7.out.cell 5 (.int .i64 y.num) rfl
              have r6 := HX7.out.cell 6 (.slice y.F y.fl y.fc) rfl
              have s0 := HX9.out.cell 0 (.bool z.s) rfl
              have s1 := HX9.out.cell 1 (.slice z.A z.l z.c) rfl
              have s2 := HX9.out.cell 2 (.bool z.s') rfl
              have s3 := HX9.out.cell 3 (.slice z.A' z.l' z.c') rfl
              go_wp2_with fail
              with_reducible refine (same_n7 RY.out RZ4.out E1 F1.out F2.out (by omega)).mono ?_
              rintro e w5 ⟨rfl, b5⟩
              go_wp2_with fail
              go_meet
              case rel => exact ⟨L3, N.eraseIdx a, v4, tn, by have := PM.out.length_eq; simp at this; omega, by omega, HQ.out.below b5, HR4.out.below b5, HM4.out.kf (KeepF.of_below b5), below_trans HB.out b5⟩
        case rest =>
          clear HX6 HQS HB q0 q1 q2 q3 q4 q5 q6 q7
          obtain ⟨L, N, v, tn, hL, htn, hq, hr, hm, hBw⟩ := hcut
          have HLN := Lib.hid hm.len
          have HQ := Lib.hid hq
          have HR := Lib.hid hr
          have HM := Lib.hid hm
          have HB := Lib.hid hBw
          clear hq hr hm hBw
          rcases Nat.eq_zero_or_pos L.length with h0 | h0
          · obtain rfl : L = [] := List.length_eq_zero_iff.1 h0
            have h0N : N.length = 0 := HLN.out.symm.trans h0
            go_wp2_with fail
            with_reducible refine (least_e HQ.out).mono ?_
            rintro e w3 ⟨rfl, b3⟩
            replace HQ := Lib.hid (HQ.out.below b3)
            replace HR := Lib.hid (HR.out.below b3)
            replace HM := Lib.hid (HM.out.kf (KeepF.of_below b3))
            replace HB := Lib.hid (below_trans HB.out b3)
            clear b3
            go_upto_region 22 with (fail)
            obtain ⟨W13, hV, xv, hN⟩ := boxes1 w3 #[.bool false, .slice none 0 0, .bool false, .slice none 0 0] 33
            rw [← hV]
            clear hV
            obtain ⟨b13, hb⟩ : ∃ b, b = w3.heap.size := ⟨_, rfl⟩
            rw [← hb] at xv ⊢
            have HX13 := Lib.hid xv
            have HBb13 := Lib.hid hb
            clear xv hb
            replace HQ := Lib.hid (HQ.out.below hN)
            replace HR := Lib.hid (HR.out.below hN)
            replace HM := Lib.hid (HM.out.kf (KeepF.of_below hN))
            replace HB := Lib.hid (below_trans HB.out hN)
            clear hN
            go_wp2_with fail
            with_reducible refine (least_rn HR.out h0N).mono ?_
            rintro e w4 ⟨rfl, b4⟩
            replace HQ := Lib.hid (HQ.out.below b4)
            replace HR := Lib.hid (HR.out.below b4)
            replace HX13 := Lib.hid (HX13.out.below b4)
            replace HM := Lib.hid (HM.out.kf (KeepF.of_below b4))
            replace HB := Lib.hid (below_trans HB.out b4)
            clear b4
            go_upto_region 23 with (fail)
            obtain ⟨W15, hV, xv, hN⟩ := boxes1 w4 #[.bool false, .slice none 0 0, .bool false, .slice none 0 0] 33
            rw [← hV]
            clear hV
            obtain ⟨b15, hb⟩ : ∃ b, b = w4.heap.size := ⟨_, rfl⟩
            rw [← hb] at xv ⊢
            have HX15 := Lib.hid xv
            have HBb15 := Lib.hid hb
            clear xv hb
            replace HQ := Lib.hid (HQ.out.below hN)
            replace HR := Lib.hid (HR.out.below hN)
            replace HX13 := Lib.hid (HX13.out.below hN)
            replace HM := Lib.hid (HM.out.kf (KeepF.of_below hN))
            replace HB := Lib.hid (below_trans HB.out hN)
            clear hN
            obtain ⟨H, cap0, hv, _⟩ := HR.out.own.slice
            obtain rfl := hv
            obtain ⟨nn, hnn⟩ : ∃ nn, nn = N.length := ⟨_, rfl⟩
            have HNN := Lib.hid hnn
            have pr : W15.cell? ⟨rb, 0, none⟩ = some (.slice H nn cap0) := by rw [hnn]; exact HR.out.at_.cell 0 _ rfl
            clear hnn
            have r0 := HX13.out.cell 0 (.bool false) rfl
            have r1 := HX13.out.cell 1 (.slice none 0 0) rfl
            have r2 := HX13.out.cell 2 (.bool false) rfl
            have r3 := HX13.out.cell 3 (.slice none 0 0) rfl
            have s0 := HX15.out.cell 0 (.bool false) rfl
            have s1 := HX15.out.cell 1 (.slice none 0 0) rfl
            have s2 := HX15.out.cell 2 (.bool false) rfl
            have s3 := HX15.out.cell 3 (.slice none 0 0) rfl
            (try simp only [List.append_eq, List.cons_append, List.nil_append])
            refine wp_region_plan (.pure 0 (.pure 1 (.pure 2 (.pure 3 (.take 4 (.take 5 (.only 6 (.pure 7 (.pure 8 (.pure 9 (.pure 10 (.pure 12 (.pure 13 (.pure 14 (.take 15 (.pure 16 (.only 11 (.pure 17 (.pure 18 .done))))))))))))))))))) [] (fun w' => w'.cell? ⟨b13, 0, none⟩ = some (.bool false) ∧ w'.cell? ⟨b13, 1, none⟩ = some (.slice none 0 0) ∧ w'.cell? ⟨b13, 2, none⟩ = some (.bool false) ∧ w'.cell? ⟨b13, 3, none⟩ = some (.slice none 0 0) ∧ w'.cell? ⟨b15, 0, none⟩ = some (.bool false) ∧ w'.cell? ⟨b15, 1, none⟩ = some (.slice none 0 0) ∧ w'.cell? ⟨b15, 2, none⟩ = some (.bool false) ∧ w'.cell? ⟨b15, 3, none⟩ = some (.slice none 0 0) ∧ w'.cell? ⟨rb, 0, none⟩ = some (.slice H nn cap0)) (by kernel_rfl) (by kernel_rfl) ⟨r0, r1, r2, r3, s0, s1, s2, s3, pr⟩ ?_
            refine wpPlan_pure (o := ⟨some 95, _, _, _, _, _⟩) (v := ?_) rfl rfl (fun w' => ?_) ?_
            rotate_left
            · go_simp <;> with_reducible rfl
            try simp only [Act.put, List.setIfInBounds_toArray, List.set_cons_zero, List.set_cons_succ]
            refine wpPlan_pure (o := ⟨some 96, _, _, _, _, _⟩) (v := ?_) rfl rfl (fun w' => ?_) ?_
            rotate_left
            · go_simp <;> with_reducible rfl
            try simp only [Act.put, List.setIfInBounds_toArray, List.set_cons_zero, List.set_cons_succ]
            refine wpPlan_pure (o := ⟨some 97, _, _, _, _, _⟩) (v := ?_) rfl rfl (fun w' => ?_) ?_
            rotate_left
            · go_simp <;> with_reducible rfl
            try simp only [Act.put, List.setIfInBounds_toArray, List.set_cons_zero, List.set_cons_succ]
            refine wpPlan_pure (o := ⟨some 98, _, _, _, _, _⟩) (v := ?_) rfl rfl (fun w' => ?_) ?_
            rotate_left
            · go_simp <;> with_reducible rfl
            try simp only [Act.put, List.setIfInBounds_toArray, List.set_cons_zero, List.set_cons_succ]
            refine wpPlan_take (o := ⟨some 99, _, _, _, _, _⟩) (v := ?_) rfl rfl (fun w' hS => ?_) ?_
            rotate_left
            · obtain ⟨r0, r1, r2, r3, s0, s1, s2, s3, pr⟩ := hS; go_simp <;> with_reducible rfl
            try simp only [Act.put, List.setIfInBounds_toArray, List.set_cons_zero, List.set_cons_succ]
            refine wpPlan_take (o := ⟨some 100, _, _, _, _, _⟩) (v := ?_) rfl rfl (fun w' hS => ?_) ?_
            rotate_left
            · obtain ⟨r0, r1, r2, r3, s0, s1, s2, s3, pr⟩ := hS; go_simp <;> with_reducible rfl
            try simp only [Act.put, List.setIfInBounds_toArray, List.set_cons_zero, List.set_cons_succ]
            refine wpPlan_call (o := ⟨some 101, _, _, _, _, _⟩) rfl rfl (fun K hK => ?_)
            go_simp
            with_reducible refine (same_q (rz _) (rz _) (by omega) true (Lib.hid (by simp))).mono ?_
            rintro e w5 ⟨rfl, bq⟩
            replace bq := below_trans (a := W15) (by go_grown) bq
            refine hK.out _ _ ⟨(bq.cell (World.block_lt_of_cell? W15 _ r0)).trans r0, (bq.cell (World.block_lt_of_cell? W15 _ r1)).trans r1, (bq.cell (World.block_lt_of_cell? W15 _ r2)).trans r2, (bq.cell (World.block_lt_of_cell? W15 _ r3)).trans r3, (bq.cell (World.block_lt_of_cell? W15 _ s0)).trans s0, (bq.cell (World.block_lt_of_cell? W15 _ s1)).trans s1, (bq.cell (World.block_lt_of_cell? W15 _ s2)).trans s2, (bq.cell (World.block_lt_of_cell? W15 _ s3)).trans s3, (bq.cell (World.block_lt_of_cell? W15 _ pr)).trans pr⟩ (fun _ => ?_)
            try simp only [Act.put, List.setIfInBounds_toArray, List.set_cons_zero, List.set_cons_succ]
            clear hK K
            replace r0 := (bq.cell (World.block_lt_of_cell? W15 _ r0)).trans r0
            replace r1 := (bq.cell (World.block_lt_of_cell? W15 _ r1)).trans r1
            replace r2 := (bq.cell (World.block_lt_of_cell? W15 _ r2)).trans r2
            replace r3 := (bq.cell (World.block_lt_of_cell? W15 _ r3)).trans r3
            replace s0 := (bq.cell (World.block_lt_of_cell? W15 _ s0)).trans s0
            replace s1 := (bq.cell (World.block_lt_of_cell? W15 _ s1)).trans s1
            replace s2 := (bq.cell (World.block_lt_of_cell? W15 _ s2)).trans s2
            replace s3 := (bq.cell (World.block_lt_of_cell? W15 _ s3)).trans s3
            replace pr := (bq.cell (World.block_lt_of_cell? W15 _ pr)).trans pr
            replace HQ := Lib.hid (HQ.out.below bq)
            replace HR := Lib.hid (HR.out.below bq)
            replace HM := Lib.hid (HM.out.kf (KeepF.of_below bq))
            replace HB := Lib.hid (below_trans HB.out bq)
            clear bq
            refine wpPlan_pure (o := ⟨some 102, _, _, _, _, _⟩) (v := ?_) rfl rfl (fun w' => ?_) ?_
            rotate_left
            · go_simp <;> with_reducible rfl
            try simp only [Act.put, List.setIfInBounds_toArray, List.set_cons_zero, List.set_cons_succ]
            refine wpPlan_pure (o := ⟨some 103, _, _, _, _, _⟩) (v := ?_) rfl rfl (fun w' => ?_) ?_
            rotate_left
            · go_simp <;> with_reducible rfl
            try simp only [Act.put, List.setIfInBounds_toArray, List.set_cons_zero, List.set_cons_succ]
            refine wpPlan_pure (o := ⟨some 104, _, _, _, _, _⟩) (v := ?_) rfl rfl (fun w' => ?_) ?_
            rotate_left
            · go_simp <;> with_reducible rfl
            try simp only [Act.put, List.setIfInBounds_toArray, List.set_cons_zero, List.set_cons_succ]
            refine wpPlan_pure (o := ⟨some 105, _, _, _, _, _⟩) (v := ?_) rfl rfl (fun w' => ?_) ?_
            rotate_left
            · go_simp <;> with_reducible rfl
            try simp only [Act.put, List.setIfInBounds_toArray, List.set_cons_zero, List.set_cons_succ]
            refine wpPlan_pure (o := ⟨some 107, _, _, _, _, _⟩) (v := ?_) rfl rfl (fun w' => ?_) ?_
            rotate_left
            · go_simp <;> with_reducible rfl
            try simp only [Act.put, List.setIfInBounds_toArray, List.set_cons_zero, List.set_cons_succ]
            refine wpPlan_pure (o := ⟨some 108, _, _, _, _, _⟩) (v := ?_) rfl rfl (fun w' => ?_) ?_
            rotate_left
            · go_simp <;> with_reducible rfl
            try simp only [Act.put, List.setIfInBounds_toArray, List.set_cons_zero, List.set_cons_succ]
            refine wpPlan_pure (o := ⟨some 109, _, _, _, _, _⟩) (v := ?_) rfl rfl (fun w' => ?_) ?_
            rotate_left
            · go_simp <;> with_reducible rfl
            try simp only [Act.put, List.setIfInBounds_toArray, List.set_cons_zero, List.set_cons_succ]
            refine wpPlan_take (o := ⟨some 110, _, _, _, _, _⟩) (v := ?_) rfl rfl (fun w' hS => ?_) ?_
            rotate_left
            · obtain ⟨r0, r1, r2, r3, s0, s1, s2, s3, pr⟩ := hS; go_simp <;> with_reducible rfl
            try simp only [Act.put, List.setIfInBounds_toArray, List.set_cons_zero, List.set_cons_succ]
            refine wpPlan_pure (o := ⟨some 111, _, _, _, _, _⟩) (v := ?_) rfl rfl (fun w' => ?_) ?_
            rotate_left
            · go_simp <;> with_reducible rfl
            try simp only [Act.put, List.setIfInBounds_toArray, List.set_cons_zero, List.set_cons_succ]
            refine wpPlan_call (o := ⟨some 106, _, _, _, _, _⟩) rfl rfl (fun K hK => ?_)
            go_simp
            with_reducible refine (len_q (HQ.out.below (by go_grown)) (nn : Int) (by rw [HNN.out, HLN.out])).mono ?_
            rintro e w6 ⟨rfl, bq⟩
            replace bq := below_trans (a := w5) (by go_grown) bq
            refine hK.out _ _ ⟨(bq.cell (World.block_lt_of_cell? w5 _ r0)).trans r0, (bq.cell (World.block_lt_of_cell? w5 _ r1)).trans r1, (bq.cell (World.block_lt_of_cell? w5 _ r2)).trans r2, (bq.cell (World.block_lt_of_cell? w5 _ r3)).trans r3, (bq.cell (World.block_lt_of_cell? w5 _ s0)).trans s0, (bq.cell (World.block_lt_of_cell? w5 _ s1)).trans s1, (bq.cell (World.block_lt_of_cell? w5 _ s2)).trans s2, (bq.cell (World.block_lt_of_cell? w5 _ s3)).trans s3, (bq.cell (World.block_lt_of_cell? w5 _ pr)).trans pr⟩ (fun _ => ?_)
            try simp only [Act.put, List.setIfInBounds_toArray, List.set_cons_zero, List.set_cons_succ]
            clear hK K
            replace r0 := (bq.cell (World.block_lt_of_cell? w5 _ r0)).trans r0
            replace r1 := (bq.cell (World.block_lt_of_cell? w5 _ r1)).trans r1
            replace r2 := (bq.cell (World.block_lt_of_cell? w5 _ r2)).trans r2
            replace r3 := (bq.cell (World.block_lt_of_cell? w5 _ r3)).trans r3
            replace s0 := (bq.cell (World.block_lt_of_cell? w5 _ s0)).trans s0
            replace s1 := (bq.cell (World.block_lt_of_cell? w5 _ s1)).trans s1
            replace s2 := (bq.cell (World.block_lt_of_cell? w5 _ s2)).trans s2
            replace s3 := (bq.cell (World.block_lt_of_cell? w5 _ s3)).trans s3
            replace pr := (bq.cell (World.block_lt_of_cell? w5 _ pr)).trans pr
            replace HQ := Lib.hid (HQ.out.below bq)
            replace HR := Lib.hid (HR.out.below bq)
            replace HM := Lib.hid (HM.out.kf (KeepF.of_below bq))
            replace HB := Lib.hid (below_trans HB.out bq)
            clear bq
            refine wpPlan_pure (o := ⟨some 112, _, _, _, _, _⟩) (v := ?_) rfl rfl (fun w' => ?_) ?_
            rotate_left
            · go_simp <;> with_reducible rfl
            try simp only [Act.put, List.setIfInBounds_toArray, List.set_cons_zero, List.set_cons_succ]
            refine wpPlan_pure (o := ⟨some 113, _, _, _, _, _⟩) (v := ?_) rfl rfl (fun w' => ?_) ?_
            rotate_left
            · go_simp <;> with_reducible rfl
            try simp only [Act.put, List.setIfInBounds_toArray, List.set_cons_zero, List.set_cons_succ]
            refine wpPlan_done ?_
            clear r0 r1 r2 r3 s0 s1 s2 s3 pr
            go_wp2_with fail
            go_roundg (n - (k + 1))
            case measure => have := HGK.out; omega
            case rel => exact ⟨k + 1, by omega, rfl, by go_num, [], N, .slice H N.length cap0, tn, by simp, htn, HQ.out, HR.out, HM.out, HB.out⟩
          · have h0N : 0 < N.length := by have := HLN.out; omega
            go_wp2_with fail
            with_reducible refine (least_q HQ.out h0).mono ?_
            rintro e w3 ⟨u, rfl, hu, ru, b3⟩
            have HMN := Lib.hid (HQ.out.min hu h0)
            have RU := Lib.hid ru
            clear hu ru
            replace HQ := Lib.hid (HQ.out.below b3)
            replace HR := Lib.hid (HR.out.below b3)
            replace HM := Lib.hid (HM.out.kf (KeepF.of_below b3))
            replace HB := Lib.hid (below_trans HB.out b3)
            clear b3
            go_upto_region 22 with (fail)
            obtain ⟨W13, hV, xv, hN⟩ := boxes1 w3 #[.bool u.s, .slice u.A u.l u.c, .bool u.s', .slice u.A' u.l' u.c'] 33
            rw [← hV]
            clear hV
            obtain ⟨b13, hb⟩ : ∃ b, b = w3.heap.size := ⟨_, rfl⟩
            rw [← hb] at xv ⊢
            have HX13 := Lib.hid xv
            have HBb13 := Lib.hid hb
            clear xv hb
            replace HQ := Lib.hid (HQ.out.below hN)
            replace HR := Lib.hid (HR.out.below hN)
            replace RU := Lib.hid (RU.out.below hN)
            replace HM := Lib.hid (HM.out.kf (KeepF.of_below hN))
            replace HB := Lib.hid (below_trans HB.out hN)
            clear hN
            go_wp2_with fail
            with_reducible refine (least_rs HR.out h0N).mono ?_
            rintro e w4 ⟨b4, a, ha, hfo, rfl⟩
            obtain ⟨z, hz⟩ : ∃ z, z = ix N a := ⟨_, rfl⟩
            rw [← hz]
            have sm := (HM.out.first HMN.out.1 HMN.out.2 ha hfo).1
            rw [← hz] at sm
            have RZ4 : Hid (R w4 z.s z.A z.c z.l z.s' z.A' z.c' z.l' z.q 20) := Lib.hid ((HR.out.ok z (by rw [hz]; exact ix_mem ha)).below b4)
            have E1 : Hid (decide (u.q = z.q) = true) := Lib.hid (by simpa using sm.1)
            clear sm hz hfo ha HMN
            replace HQ := Lib.hid (HQ.out.below b4)
            replace HR := Lib.hid (HR.out.below b4)
            replace RU := Lib.hid (RU.out.below b4)
            replace HX13 := Lib.hid (HX13.out.below b4)
            replace HM := Lib.hid (HM.out.kf (KeepF.of_below b4))
            replace HB := Lib.hid (below_trans HB.out b4)
            clear b4
            go_upto_region 23 with (fail)
            obtain ⟨W15, hV, xv, hN⟩ := boxes1 w4 #[.bool z.s, .slice z.A z.l z.c, .bool z.s', .slice z.A' z.l' z.c'] 33
            rw [← hV]
            clear hV
            obtain ⟨b15, hb⟩ : ∃ b, b = w4.heap.size := ⟨_, rfl⟩
            rw [← hb] at xv ⊢
            have HX15 := Lib.hid xv
            have HBb15 := Lib.hid hb
            clear xv hb
            replace HQ := Lib.hid (HQ.out.below hN)
            replace HR := Lib.hid (HR.out.below hN)
            replace RU := Lib.hid (RU.out.below hN)
            replace HX13 := Lib.hid (HX13.out.below hN)
            replace RZ4 := Lib.hid (RZ4.out.below hN)
            replace HM := Lib.hid (HM.out.kf (KeepF.of_below hN))
            replace HB := Lib.hid (below_trans HB.out hN)
            clear hN
            obtain ⟨H, cap0, hv, _⟩ := HR.out.own.slice
            obtain rfl := hv
            obtain ⟨nn, hnn⟩ : ∃ nn, nn = N.length := ⟨_, rfl⟩
            have HNN := Lib.hid hnn
            have pr : W15.cell? ⟨rb, 0, none⟩ = some (.slice H nn cap0) := by rw [hnn]; exact HR.out.at_.cell 0 _ rfl
            clear hnn
            have r0 := HX13.out.cell 0 (.bool u.s) rfl
            have r1 := HX13.out.cell 1 (.slice u.A u.l u.c) rfl
            have r2 := HX13.out.cell 2 (.bool u.s') rfl
            have r3 := HX13.out.cell 3 (.slice u.A' u.l' u.c') rfl
            have s0 := HX15.out.cell 0 (.bool z.s) rfl
            have s1 := HX15.out.cell 1 (.slice z.A z.l z.c) rfl
            have s2 := HX15.out.cell 2 (.bool z.s') rfl
            have s3 := HX15.out.cell 3 (.slice z.A' z.l' z.c') rfl
            (try simp only [List.append_eq, List.cons_append, List.nil_append])
            refine wp_region_plan (.pure 0 (.pure 1 (.pure 2 (.pure 3 (.take 4 (.take 5 (.only 6 (.pure 7 (.pure 8 (.pure 9 (.pure 10 (.pure 12 (.pure 13 (.pure 14 (.take 15 (.pure 16 (.only 11 (.pure 17 (.pure 18 .done))))))))))))))))))) [] (fun w' => w'.cell? ⟨b13, 0, none⟩ = some (.bool u.s) ∧ w'.cell? ⟨b13, 1, none⟩ = some (.slice u.A u.l u.c) ∧ w'.cell? ⟨b13, 2, none⟩ = some (.bool u.s') ∧ w'.cell? ⟨b13, 3, none⟩ = some (.slice u.A' u.l' u.c') ∧ w'.cell? ⟨b15, 0, none⟩ = some (.bool z.s) ∧ w'.cell? ⟨b15, 1, none⟩ = some (.slice z.A z.l z.c) ∧ w'.cell? ⟨b15, 2, none⟩ = some (.bool z.s') ∧ w'.cell? ⟨b15, 3, none⟩ = some (.slice z.A' z.l' z.c') ∧ w'.cell? ⟨rb, 0, none⟩ = some (.slice H nn cap0)) (by kernel_rfl) (by kernel_rfl) ⟨r0, r1, r2, r3, s0, s1, s2, s3, pr⟩ ?_
            refine wpPlan_pure (o := ⟨some 95, _, _, _, _, _⟩) (v := ?_) rfl rfl (fun w' => ?_) ?_
            rotate_left
            · go_simp <;> with_reducible rfl
            try simp only [Act.put, List.setIfInBounds_toArray, List.set_cons_zero, List.set_cons_succ]
            refine wpPlan_pure (o := ⟨some 96, _, _, _, _, _⟩) (v := ?_) rfl rfl (fun w' => ?_) ?_
            rotate_left
            · go_simp <;> with_reducible rfl
            try simp only [Act.put, List.setIfInBounds_toArray, List.set_cons_zero, List.set_cons_succ]
            refine wpPlan_pure (o := ⟨some 97, _, _, _, _, _⟩) (v := ?_) rfl rfl (fun w' => ?_) ?_
            rotate_left
            · go_simp <;> with_reducible rfl
            try simp only [Act.put, List.setIfInBounds_toArray, List.set_cons_zero, List.set_cons_succ]
            refine wpPlan_pure (o := ⟨some 98, _, _, _, _, _⟩) (v := ?_) rfl rfl (fun w' => ?_) ?_
            rotate_left
            · go_simp <;> with_reducible rfl
            try simp only [Act.put, List.setIfInBounds_toArray, List.set_cons_zero, List.set_cons_succ]
            refine wpPlan_take (o := ⟨some 99, _, _, _, _, _⟩) (v := ?_) rfl rfl (fun w' hS => ?_) ?_
            rotate_left
            · obtain ⟨r0, r1, r2, r3, s0, s1, s2, s3, pr⟩ := hS; go_simp <;> with_reducible rfl
            try simp only [Act.put, List.setIfInBounds_toArray, List.set_cons_zero, List.set_cons_succ]
            refine wpPlan_take (o := ⟨some 100, _, _, _, _, _⟩) (v := ?_) rfl rfl (fun w' hS => ?_) ?_
            rotate_left
            · obtain ⟨r0, r1, r2, r3, s0, s1, s2, s3, pr⟩ := hS; go_simp <;> with_reducible rfl
            try simp only [Act.put, List.setIfInBounds_toArray, List.set_cons_zero, List.set_cons_succ]
            refine wpPlan_call (o := ⟨some 101, _, _, _, _, _⟩) rfl rfl (fun K hK => ?_)
            go_simp
            with_reducible refine (same_q (RU.out.below (by go_grown)) (RZ4.out.below (by go_grown)) (by omega) true E1).mono ?_
            rintro e w5 ⟨rfl, bq⟩
            replace bq := below_trans (a := W15) (by go_grown) bq
            refine hK.out _ _ ⟨(bq.cell (World.block_lt_of_cell? W15 _ r0)).trans r0, (bq.cell (World.block_lt_of_cell? W15 _ r1)).trans r1, (bq.cell (World.block_lt_of_cell? W15 _ r2)).trans r2, (bq.cell (World.block_lt_of_cell? W15 _ r3)).trans r3, (bq.cell (World.block_lt_of_cell? W15 _ s0)).trans s0, (bq.cell (World.block_lt_of_cell? W15 _ s1)).trans s1, (bq.cell (World.block_lt_of_cell? W15 _ s2)).trans s2, (bq.cell (World.block_lt_of_cell? W15 _ s3)).trans s3, (bq.cell (World.block_lt_of_cell? W15 _ pr)).trans pr⟩ (fun _ => ?_)
            try simp only [Act.put, List.setIfInBounds_toArray, List.set_cons_zero, List.set_cons_succ]
            clear hK K
            replace r0 := (bq.cell (World.block_lt_of_cell? W15 _ r0)).trans r0
            replace r1 := (bq.cell (World.block_lt_of_cell? W15 _ r1)).trans r1
            replace r2 := (bq.cell (World.block_lt_of_cell? W15 _ r2)).trans r2
            replace r3 := (bq.cell (World.block_lt_of_cell? W15 _ r3)).trans r3
            replace s0 := (bq.cell (World.block_lt_of_cell? W15 _ s0)).trans s0
            replace s1 := (bq.cell (World.block_lt_of_cell? W15 _ s1)).trans s1
            replace s2 := (bq.cell (World.block_lt_of_cell? W15 _ s2)).trans s2
            replace s3 := (bq.cell (World.block_lt_of_cell? W15 _ s3)).trans s3
            replace pr := (bq.cell (World.block_lt_of_cell? W15 _ pr)).trans pr
            replace HQ := Lib.hid (HQ.out.below bq)
            replace HR := Lib.hid (HR.out.below bq)
            replace HM := Lib.hid (HM.out.kf (KeepF.of_below bq))
            replace HB := Lib.hid (below_trans HB.out bq)
            clear bq
            refine wpPlan_pure (o := ⟨some 102, _, _, _, _, _⟩) (v := ?_) rfl rfl (fun w' => ?_) ?_
            rotate_left
            · go_simp <;> with_reducible rfl
            try simp only [Act.put, List.setIfInBounds_toArray, List.set_cons_zero, List.set_cons_succ]
            refine wpPlan_pure (o := ⟨some 103, _, _, _, _, _⟩) (v := ?_) rfl rfl (fun w' => ?_) ?_
            rotate_left
            · go_simp <;> with_reducible rfl
            try simp only [Act.put, List.setIfInBounds_toArray, List.set_cons_zero, List.set_cons_succ]
            refine wpPlan_pure (o := ⟨some 104, _, _, _, _, _⟩) (v := ?_) rfl rfl (fun w' => ?_) ?_
            rotate_left
            · go_simp <;> with_reducible rfl
            try simp only [Act.put, List.setIfInBounds_toArray, List.set_cons_zero, List.set_cons_succ]
            refine wpPlan_pure (o := ⟨some 105, _, _, _, _, _⟩) (v := ?_) rfl rfl (fun w' => ?_) ?_
            rotate_left
            · go_simp <;> with_reducible rfl
            try simp only [Act.put, List.setIfInBounds_toArray, List.set_cons_zero, List.set_cons_succ]
            refine wpPlan_pure (o := ⟨some 107, _, _, _, _, _⟩) (v := ?_) rfl rfl (fun w' => ?_) ?_
            rotate_left
            · go_simp <;> with_reducible rfl
            try simp only [Act.put, List.setIfInBounds_toArray, List.set_cons_zero, List.set_cons_succ]
            refine wpPlan_pure (o := ⟨some 108, _, _, _, _, _⟩) (v := ?_) rfl rfl (fun w' => ?_) ?_
            rotate_left
            · go_simp <;> with_reducible rfl
            try simp only [Act.put, List.setIfInBounds_toArray, List.set_cons_zero, List.set_cons_succ]
            refine wpPlan_pure (o := ⟨some 109, _, _, _, _, _⟩) (v := ?_) rfl rfl (fun w' => ?_) ?_
            rotate_left
            · go_simp <;> with_reducible rfl
            try simp only [Act.put, List.setIfInBounds_toArray, List.set_cons_zero, List.set_cons_succ]
            refine wpPlan_take (o := ⟨some 110, _, _, _, _, _⟩) (v := ?_) rfl rfl (fun w' hS => ?_) ?_
            rotate_left
            · obtain ⟨r0, r1, r2, r3, s0, s1, s2, s3, pr⟩ := hS; go_simp <;> with_reducible rfl
            try simp only [Act.put, List.setIfInBounds_toArray, List.set_cons_zero, List.set_cons_succ]
            refine wpPlan_pure (o := ⟨some 111, _, _, _, _, _⟩) (v := ?_) rfl rfl (fun w' => ?_) ?_
            rotate_left
            · go_simp <;> with_reducible rfl
            try simp only [Act.put, List.setIfInBounds_toArray, List.set_cons_zero, List.set_cons_succ]
            refine wpPlan_call (o := ⟨some 106, _, _, _, _, _⟩) rfl rfl (fun K hK => ?_)
            go_simp
            with_reducible refine (len_q (HQ.out.below (by go_grown)) (nn : Int) (by rw [HNN.out, HLN.out])).mono ?_
            rintro e w6 ⟨rfl, bq⟩
            replace bq := below_trans (a := w5) (by go_grown) bq
            refine hK.out _ _ ⟨(bq.cell (World.block_lt_of_cell? w5 _ r0)).trans r0, (bq.cell (World.block_lt_of_cell? w5 _ r1)).trans r1, (bq.cell (World.block_lt_of_cell? w5 _ r2)).trans r2, (bq.cell (World.block_lt_of_cell? w5 _ r3)).trans r3, (bq.cell (World.block_lt_of_cell? w5 _ s0)).trans s0, (bq.cell (World.block_lt_of_cell? w5 _ s1)).trans s1, (bq.cell (World.block_lt_of_cell? w5 _ s2)).trans s2, (bq.cell (World.block_lt_of_cell? w5 _ s3)).trans s3, (bq.cell (World.block_lt_of_cell? w5 _ pr)).trans pr⟩ (fun _ => ?_)
            try simp only [Act.put, List.setIfInBounds_toArray, List.set_cons_zero, List.set_cons_succ]
            clear hK K
            replace r0 := (bq.cell (World.block_lt_of_cell? w5 _ r0)).trans r0
            replace r1 := (bq.cell (World.block_lt_of_cell? w5 _ r1)).trans r1
            replace r2 := (bq.cell (World.block_lt_of_cell? w5 _ r2)).trans r2
            replace r3 := (bq.cell (World.block_lt_of_cell? w5 _ r3)).trans r3
            replace s0 := (bq.cell (World.block_lt_of_cell? w5 _ s0)).trans s0
            replace s1 := (bq.cell (World.block_lt_of_cell? w5 _ s1)).trans s1
            replace s2 := (bq.cell (World.block_lt_of_cell? w5 _ s2)).trans s2
            replace s3 := (bq.cell (World.block_lt_of_cell? w5 _ s3)).trans s3
            replace pr := (bq.cell (World.block_lt_of_cell? w5 _ pr)).trans pr
            replace HQ := Lib.hid (HQ.out.below bq)
            replace HR := Lib.hid (HR.out.below bq)
            replace HM := Lib.hid (HM.out.kf (KeepF.of_below bq))
            replace HB := Lib.hid (below_trans HB.out bq)
            clear bq
            refine wpPlan_pure (o := ⟨some 112, _, _, _, _, _⟩) (v := ?_) rfl rfl (fun w' => ?_) ?_
            rotate_left
            · go_simp <;> with_reducible rfl
            try simp only [Act.put, List.setIfInBounds_toArray, List.set_cons_zero, List.set_cons_succ]
            refine wpPlan_pure (o := ⟨some 113, _, _, _, _, _⟩) (v := ?_) rfl rfl (fun w' => ?_) ?_
            rotate_left
            · go_simp <;> with_reducible rfl
            try simp only [Act.put, List.setIfInBounds_toArray, List.set_cons_zero, List.set_cons_succ]
            refine wpPlan_done ?_
            clear r0 r1 r2 r3 s0 s1 s2 s3 pr
            go_wp2_with fail
            go_roundg (n - (k + 1))
            case measure => have := HGK.out; omega
            case rel => exact ⟨k + 1, by omega, rfl, by go_num, L, N, .slice H N.length cap0, tn, hL, htn, HQ.out, HR.out, HM.out, HB.out⟩
      · have HL := Lib.hid hlg
        clear hlg
        go_wp2_with fail
        with_reducible refine (long_q true HL.out HOK.out.len hlx.1 hlx.2).mono ?_
        rintro e w2 ⟨rfl, b2⟩
        have HQ2 := Lib.hid ((HQS.out.below b2).up (k' := k + 1) (by omega))
        clear b2 q0 q1 q2 q3 q4 q5 q6 q7 HQS
        go_wp2_with fail
        go_roundg (n - (k + 1))
        case measure => have := HGK.out; omega
        case rel => exact ⟨k + 1, by omega, rfl, by go_num, HQ2.out⟩
    · have hkn : k = n := by omega
      have i1 : ¬ ((k : Int) < (len : Int) ∧ (k : Int) < 300) := by omega
      have HTW := Lib.hid (Tab.below hT.out HB.out)
      clear HQS
      rcases Nat.lt_or_ge k len with hc | hc
      · have j1 : (k : Int) < (len : Int) := by omega
        have j2 : ¬ (k : Int) < 300 := by omega
        clear hkn
        go_wp2_with fail
        with_reducible refine (awake24 HTW).mono ?_
        rintro e w6 ⟨rfl, b6⟩
        go_wp2_with fail
        go_ret
        exact ⟨rfl, below_trans HB.out b6⟩
      · have j1 : ¬ (k : Int) < (len : Int) := by omega
        clear hkn
        go_wp2_with fail
        with_reducible refine (awake24 HTW).mono ?_
        rintro e w6 ⟨rfl, b6⟩
        go_wp2_with fail
        go_ret
        exact ⟨rfl, below_trans HB.out b6⟩
end Go.Proofs.YtihdaemjabhhkaaGreatDoor
