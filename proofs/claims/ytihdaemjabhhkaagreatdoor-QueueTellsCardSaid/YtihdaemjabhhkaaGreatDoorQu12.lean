/-
  The examples of layer 24 come out. Written by wip/gen/qu12.py.
-/
import Derived.Test.YtihdaemjabhhkaaGreatDoorQu11
namespace Go.Proofs.YtihdaemjabhhkaaGreatDoor
open Go.RowKit Tw Hp

theorem sz_small {n d : Int} (hn : n.natAbs < 18446744073709551616) (hd : 0 < d) (hd' : d.natAbs < 18446744073709551616) : sz (qof n d) ≤ 1 := by
  have := sz_qof (n := n) (d := d) (a := 1) (b := 1) hd (nl_le_of_lt (by rw [Nat.pow_one]; exact hn)) (nl_le_of_lt (by rw [Nat.pow_one]; exact hd'))
  omega
theorem s8_two : sz (qof 2 1) ≤ 8 := Nat.le_trans (sz_small (by decide) (by decide) (by decide)) (by omega)
theorem s20_two : sz (qof 2 1) ≤ 20 := Nat.le_trans s8_two (by omega)
theorem s8_half : sz (qof 1 2) ≤ 8 := Nat.le_trans (sz_small (by decide) (by decide) (by decide)) (by omega)
theorem s20_half : sz (qof 1 2) ≤ 20 := Nat.le_trans s8_half (by omega)
set_option maxRecDepth 100000 in
theorem len_q {w : World} {qb B : Nat} {L : List Itm} {c2 : Value} (h : QH w qb B (.pointer (some ⟨qb, 0, none⟩)) c2 L) (n : Int) (hn : (L.length : Int) = n) :
    Calls Tryz.prog 18 #[.pointer (some ⟨qb, 0, none⟩)] w fun e w' => e = .returned (.int .i64 n) ∧ Below w.heap.size w w' := by
  obtain ⟨H, cap, hq, _⟩ := h.at_
  subst hn
  exact (len_yes hq).mono fun e w' ⟨he, hw⟩ => ⟨he, by rw [← hw]; exact Below.refl _ _⟩
theorem QH.min {w : World} {qb B : Nat} {c0 c2 : Value} {L : List Itm} {x : Itm} (h : QH w qb B c0 c2 L) (hx : ix L 0 = x) (h0 : 0 < L.length) : x ∈ L ∧ ∀ y ∈ L, itLt y x = false := by
  refine ⟨by rw [← hx, ix_get h0]; exact List.getElem_mem h0, fun y hy => ?_⟩
  obtain ⟨k, hk, rfl⟩ := List.getElem_of_mem hy
  have := h.heap.first swo_it k hk
  rw [hx, ix_get hk] at this
  exact this
theorem pop_min {L L' : List Itm} {x : Itm} (p : L.Perm (x :: L')) (m : ∀ y ∈ L', itLt y x = false) : x ∈ L ∧ ∀ y ∈ L, itLt y x = false := by
  refine ⟨p.mem_iff.2 List.mem_cons_self, fun y hy => ?_⟩
  rcases List.mem_cons.1 (p.mem_iff.1 hy) with rfl | h
  · exact swo_it.irr _
  · exact m y h
theorem half_lt : qof 1 2 < qof 2 1 := (qof_lt (by omega) (by omega)).2 (by omega)
section
variable {x x0 x1 x2 xa : Itm} {L0 L1 L2 La : List Itm}
theorem aw_all (p0 : L0.Perm ([] ++ [x0])) (p1 : L1.Perm (L0 ++ [x1])) (p2 : L2.Perm (L1 ++ [x2])) : L2.Perm [x0, x1, x2] := by
  refine p2.trans ?_
  have h1 : L1.Perm [x0, x1] := p1.trans (by simpa using List.Perm.append_right [x1] p0)
  simpa using List.Perm.append_right [x2] h1
theorem aw_half (h : x ∈ L2 ∧ ∀ y ∈ L2, itLt y x = false) (p0 : L0.Perm ([] ++ [x0])) (p1 : L1.Perm (L0 ++ [x1])) (p2 : L2.Perm (L1 ++ [x2])) (e0 : x0.q = qof 2 1) (e1 : x1.q = qof 1 2) (e2 : x2.q = qof 2 1) : x.q = qof 1 2 := by
  have pa := aw_all p0 p1 p2
  have hm := h.2 x1 (pa.mem_iff.2 (by simp))
  rw [Bool.eq_false_iff, Ne, itLt_iff] at hm
  have hx := pa.mem_iff.1 h.1
  simp only [List.mem_cons, List.not_mem_nil, or_false] at hx
  rcases hx with rfl | rfl | rfl
  · exfalso; apply hm; left; rw [e1, e0]; exact half_lt
  · exact e1
  · exfalso; apply hm; left; rw [e1, e2]; exact half_lt
theorem aw_dep (h : x ∈ La ∧ ∀ y ∈ La, itLt y x = false) (pa : L2.Perm (xa :: La)) (ha : xa.q = qof 1 2) (p0 : L0.Perm ([] ++ [x0])) (p1 : L1.Perm (L0 ++ [x1])) (p2 : L2.Perm (L1 ++ [x2])) (e0 : x0.q = qof 2 1) (_e1 : x1.q = qof 1 2) (e2 : x2.q = qof 2 1) (d0 : x0.dep = 0) (d2 : x2.dep = 3) : x.dep = 3 := by
  have pq := aw_all p0 p1 p2
  have hxa := pq.mem_iff.1 (pa.mem_iff.2 List.mem_cons_self)
  have hne : qof 1 2 ≠ qof 2 1 := Rat.ne_of_lt half_lt
  simp only [List.mem_cons, List.not_mem_nil, or_false] at hxa
  obtain rfl : xa = x1 := by
    rcases hxa with rfl | h | rfl
    · exact absurd (ha.symm.trans e0) hne
    · exact h
    · exact absurd (ha.symm.trans e2) hne
  have pl : La.Perm [x0, x2] := by
    have h1 : (xa :: La).Perm [x0, xa, x2] := pa.symm.trans pq
    have h2 : [x0, xa, x2].Perm (xa :: [x0, x2]) := List.Perm.swap _ _ _
    exact (h1.trans h2).cons_inv
  have hm := h.2 x2 (pl.mem_iff.2 (by simp))
  rw [Bool.eq_false_iff, Ne, itLt_iff] at hm
  have hx := pl.mem_iff.1 h.1
  simp only [List.mem_cons, List.not_mem_nil, or_false] at hx
  rcases hx with rfl | rfl
  · exfalso; apply hm; right; refine ⟨e2.trans e0.symm, .inl ?_⟩; rw [d0, d2]; omega
  · exact d2
end
set_option maxRecDepth 100000 in
set_option maxHeartbeats 8000000 in
theorem awake24 {w : World} (hT : Hid (Tab w)) : Calls Tryz.prog 19 #[] w fun e w' => e = .returned (.bool true) ∧ Below w.heap.size w w' := by
  have lb : ([] : List Itm).length < 1000000 := by simp
  have hB := Below.refl w.heap.size w
  have Bz := Below.refl w.heap.size w
  go_enter Tryz.func19, Tryz.ntmps19
  go_wp2_with fail
  with_reducible refine (new_q).mono ?_
  rintro e w1 ⟨qb, rfl, hqb, hq1, b1⟩
  replace b1 := below_trans (a := w) (by go_grown) b1
  replace Bz := below_trans Bz b1
  clear b1
  go_wp2_with fail
  with_reducible refine (of_q 2 1 (Lib.hid (by omega)) (Lib.hid (by omega)) (Lib.hid (Tab.below hT.out (below_trans hB (below_trans (b := w1) Bz (by go_grown)))))).mono ?_
  rintro e w2 ⟨s2, A2, c2, l2, s2r, A2r, c2r, l2r, rfl, h2, b2⟩
  replace b2 := below_trans (a := w1) (by go_grown) b2
  replace hq1 := hq1.below b2
  replace Bz := below_trans Bz b2
  clear b2
  go_upto_region 3 with (fail)
  obtain ⟨V1, hW, x0, hN⟩ := boxes1 w2 #[.bool s2, .slice A2 l2 c2, .bool s2r, .slice A2r l2r c2r] 33
  rw [← hW]
  clear hW
  obtain ⟨v0, hb0⟩ : ∃ b, b = w2.heap.size := ⟨_, rfl⟩
  rw [← hb0] at x0 ⊢
  have ow_0 : w.heap.size ≤ v0 := by have := hB.size; have := Bz.size; omega
  replace hq1 := hq1.below hN
  replace h2 := h2.below hN
  replace hB := below_trans (below_trans hB Bz) hN
  have HX0 := Lib.hid x0
  clear x0 hN Bz hb0
  have Bz := Below.refl V1.heap.size V1
  have p0_0 := (HX0.out.below Bz).cell 0 (.bool s2) rfl
  have p0_1 := (HX0.out.below Bz).cell 1 (.slice A2 l2 c2) rfl
  have p0_2 := (HX0.out.below Bz).cell 2 (.bool s2r) rfl
  have p0_3 := (HX0.out.below Bz).cell 3 (.slice A2r l2r c2r) rfl
  go_wp2_with fail
  with_reducible refine (push_q (QH.below hq1 (by go_grown)) (RN.r' (RN.below h2 (by go_grown)) s8_two) s20_two (Fx.nil _) (by omega) (by omega) (by omega) (by omega) (Lib.hid (Tab.below hT.out (below_trans hB (below_trans (b := V1) Bz (by go_grown)))))).mono ?_
  rintro e w3 ⟨rfl, x0, L0, ⟨ea0, eb0, ec0, ed0⟩, pm0, hq3, kq3⟩
  replace kq3 := (QK.of_below (w := V1) (by go_grown) (by have := hB.size; have := Bz.size; omega)).trans kq3
  replace h2 := h2.k kq3.k64
  have ln0 : L0.length = 1 := by rw [pm0.length_eq]; simp
  have PM0 := Lib.hid pm0
  have EA0 := Lib.hid ea0
  have EB0 := Lib.hid eb0
  have EC0 := Lib.hid ec0
  have ED0 := Lib.hid ed0
  have LN0 := Lib.hid ln0
  have lb0 : L0.length < 1000000 := by omega
  clear pm0 ea0 eb0 ec0 ed0 ln0
  replace hB := (below_trans hB Bz).trans (kq3.below)
  replace HX0 := Lib.hid (kq3.far _ _ _ (by decide) (by decide) (HX0.out.below Bz))
  clear kq3 Bz
  have Bz := Below.refl w3.heap.size w3
  clear p0_0 p0_1 p0_2 p0_3
  go_wp2_with fail
  with_reducible refine (of_q 1 2 (Lib.hid (by omega)) (Lib.hid (by omega)) (Lib.hid (Tab.below hT.out (below_trans hB (below_trans (b := w3) Bz (by go_grown)))))).mono ?_
  rintro e w4 ⟨s4, A4, c4, l4, s4r, A4r, c4r, l4r, rfl, h4, b4⟩
  replace b4 := below_trans (a := w3) (by go_grown) b4
  replace hq3 := hq3.below b4
  replace h2 := h2.below b4
  replace Bz := below_trans Bz b4
  clear b4
  go_wp2_with fail
  with_reducible refine (push_q (QH.below hq3 (by go_grown)) (RN.r' (RN.below h4 (by go_grown)) s8_half) s20_half (Fx.nil _) (by omega) (by omega) (by omega) (by omega) (Lib.hid (Tab.below hT.out (below_trans hB (below_trans (b := w4) Bz (by go_grown)))))).mono ?_
  rintro e w5 ⟨rfl, x1, L1, ⟨ea1, eb1, ec1, ed1⟩, pm1, hq5, kq5⟩
  replace kq5 := (QK.of_below (w := w4) (by go_grown) (by have := hB.size; have := Bz.size; omega)).trans kq5
  replace h2 := h2.k kq5.k64
  have ln1 : L1.length = 2 := by rw [pm1.length_eq]; simp [LN0.out]
  have PM1 := Lib.hid pm1
  have EA1 := Lib.hid ea1
  have EB1 := Lib.hid eb1
  have EC1 := Lib.hid ec1
  have ED1 := Lib.hid ed1
  have LN1 := Lib.hid ln1
  have lb1 : L1.length < 1000000 := by omega
  clear pm1 ea1 eb1 ec1 ed1 ln1
  replace hB := (below_trans hB Bz).trans (kq5.below)
  replace HX0 := Lib.hid (kq5.far _ _ _ (by decide) (by decide) (HX0.out.below Bz))
  clear kq5 Bz
  have Bz := Below.refl w5.heap.size w5
  have p0_0 := (HX0.out.below Bz).cell 0 (.bool s2) rfl
  have p0_1 := (HX0.out.below Bz).cell 1 (.slice A2 l2 c2) rfl
  have p0_2 := (HX0.out.below Bz).cell 2 (.bool s2r) rfl
  have p0_3 := (HX0.out.below Bz).cell 3 (.slice A2r l2r c2r) rfl
  go_wp2_with fail
  with_reducible refine (push_q (QH.below hq5 (by go_grown)) (RN.r' (RN.below h2 (by go_grown)) s8_two) s20_two (Fx.nil _) (by omega) (by omega) (by omega) (by omega) (Lib.hid (Tab.below hT.out (below_trans hB (below_trans (b := w5) Bz (by go_grown)))))).mono ?_
  rintro e w6 ⟨rfl, x2, L2, ⟨ea2, eb2, ec2, ed2⟩, pm2, hq6, kq6⟩
  replace kq6 := (QK.of_below (w := w5) (by go_grown) (by have := hB.size; have := Bz.size; omega)).trans kq6
  have ln2 : L2.length = 3 := by rw [pm2.length_eq]; simp [LN1.out]
  have PM2 := Lib.hid pm2
  have EA2 := Lib.hid ea2
  have EB2 := Lib.hid eb2
  have EC2 := Lib.hid ec2
  have ED2 := Lib.hid ed2
  have LN2 := Lib.hid ln2
  have lb2 : L2.length < 1000000 := by omega
  clear pm2 ea2 eb2 ec2 ed2 ln2
  replace hB := (below_trans hB Bz).trans (kq6.below)
  replace HX0 := Lib.hid (kq6.far _ _ _ (by decide) (by decide) (HX0.out.below Bz))
  clear kq6 Bz
  have Bz := Below.refl w6.heap.size w6
  clear p0_0 p0_1 p0_2 p0_3
  go_wp2_with fail
  with_reducible refine (len_q (QH.below hq6 (by go_grown)) 3 (by have := LN2.out; omega)).mono ?_
  rintro e w7 ⟨rfl, b7⟩
  replace b7 := below_trans (a := w6) (by go_grown) b7
  replace hq6 := hq6.below b7
  replace Bz := below_trans Bz b7
  clear b7
  go_wp2_with fail
  with_reducible refine (least_q (QH.below hq6 (by go_grown)) (by have := LN2.out; omega)).mono ?_
  rintro e w8 ⟨xl, rfl, hxl, hl8, b8⟩
  replace b8 := below_trans (a := w7) (by go_grown) b8
  replace hq6 := hq6.below b8
  replace Bz := below_trans Bz b8
  clear b8
  have HXL : Hid (xl.q = qof 1 2) := Lib.hid (aw_half (hq6.min hxl (by rw [LN2.out]; omega)) PM0.out PM1.out PM2.out EA0.out EA1.out EA2.out)
  clear hxl
  go_upto_region 6 with (fail)
  obtain ⟨V2, hW, x1, hN⟩ := boxes1 w8 #[.bool xl.s, .slice xl.A xl.l xl.c, .bool xl.s', .slice xl.A' xl.l' xl.c'] 33
  rw [← hW]
  clear hW
  obtain ⟨v1, hb1⟩ : ∃ b, b = w8.heap.size := ⟨_, rfl⟩
  rw [← hb1] at x1 ⊢
  have o0_1 : v0 < v1 := by have := (HX0.out.below Bz).lt; omega
  have ow_1 : w.heap.size ≤ v1 := by have := hB.size; have := Bz.size; omega
  replace hq6 := hq6.below hN
  replace hl8 := hl8.below hN
  replace hB := below_trans (below_trans hB Bz) hN
  replace HX0 := Lib.hid ((HX0.out.below Bz).below hN)
  have HX1 := Lib.hid x1
  clear x1 hN Bz hb1
  have Bz := Below.refl V2.heap.size V2
  go_wp2_with fail
  with_reducible refine (pop_q (QH.below hq6 (by go_grown)) (m := 2) LN2.out).mono ?_
  rintro e w9 ⟨xa, La, rfl, pa, ma, hq9, ra9, kq9⟩
  replace kq9 := (QK.of_below (w := V2) (by go_grown) (by have := hB.size; have := Bz.size; omega)).trans kq9
  replace hl8 := hl8.k kq9.k64
  have LA : Hid (La.length = 2) := by show _ = _; have := pa.length_eq; rw [LN2.out] at this; simp at this; omega
  have HXA : Hid (xa.q = qof 1 2) := Lib.hid (aw_half (pop_min pa ma) PM0.out PM1.out PM2.out EA0.out EA1.out EA2.out)
  have PA := Lib.hid pa
  clear pa ma
  replace hB := (below_trans hB Bz).trans (kq9.below)
  replace HX0 := Lib.hid (kq9.far _ _ _ (by decide) (by decide) (HX0.out.below Bz))
  replace HX1 := Lib.hid (kq9.far _ _ _ (by decide) (by decide) (HX1.out.below Bz))
  clear kq9 Bz
  have Bz := Below.refl w9.heap.size w9
  go_upto_region 7 with (fail)
  obtain ⟨V3, hW, x2, hN⟩ := boxes1 w9 #[.bool xa.s, .slice xa.A xa.l xa.c, .bool xa.s', .slice xa.A' xa.l' xa.c', .int .i64 xa.dep, .int .i64 xa.num, .slice xa.F xa.fl xa.fc] 36
  rw [← hW]
  clear hW
  obtain ⟨v2, hb2⟩ : ∃ b, b = w9.heap.size := ⟨_, rfl⟩
  rw [← hb2] at x2 ⊢
  have o0_2 : v0 < v2 := by have := (HX0.out.below Bz).lt; omega
  have o1_2 : v1 < v2 := by have := (HX1.out.below Bz).lt; omega
  have ow_2 : w.heap.size ≤ v2 := by have := hB.size; have := Bz.size; omega
  replace hq9 := hq9.below hN
  replace hl8 := hl8.below hN
  replace ra9 := ra9.below hN
  replace hB := below_trans (below_trans hB Bz) hN
  replace HX0 := Lib.hid ((HX0.out.below Bz).below hN)
  replace HX1 := Lib.hid ((HX1.out.below Bz).below hN)
  have HX2 := Lib.hid x2
  clear x2 hN Bz hb2
  have Bz := Below.refl V3.heap.size V3
  go_wp2_with fail
  with_reducible refine (pop_q (QH.below hq9 (by go_grown)) (m := 1) LA.out).mono ?_
  rintro e w10 ⟨xc, Lc, rfl, pc, mc, hq10, _, kq10⟩
  replace kq10 := (QK.of_below (w := V3) (by go_grown) (by have := hB.size; have := Bz.size; omega)).trans kq10
  replace hl8 := hl8.k kq10.k64
  replace ra9 := ra9.k kq10.k64
  have LC : Hid (Lc.length = 1) := by show _ = _; have := pc.length_eq; rw [LA.out] at this; simp at this; omega
  have dc : (xc.dep == 3) = true := by rw [aw_dep (pop_min pc mc) PA.out HXA.out PM0.out PM1.out PM2.out EA0.out EA1.out EA2.out EB0.out EB2.out]; rfl
  clear pc mc
  replace hB := (below_trans hB Bz).trans (kq10.below)
  replace HX0 := Lib.hid (kq10.far _ _ _ (by decide) (by decide) (HX0.out.below Bz))
  replace HX1 := Lib.hid (kq10.far _ _ _ (by decide) (by decide) (HX1.out.below Bz))
  replace HX2 := Lib.hid (kq10.far _ _ _ (by decide) (by decide) (HX2.out.below Bz))
  clear kq10 Bz
  have Bz := Below.refl w10.heap.size w10
  go_upto_region 8 with (fail)
  obtain ⟨V4, hW, x3, hN⟩ := boxes1 w10 #[.bool xc.s, .slice xc.A xc.l xc.c, .bool xc.s', .slice xc.A' xc.l' xc.c', .int .i64 xc.dep, .int .i64 xc.num, .slice xc.F xc.fl xc.fc] 36
  rw [← hW]
  clear hW
  obtain ⟨v3, hb3⟩ : ∃ b, b = w10.heap.size := ⟨_, rfl⟩
  rw [← hb3] at x3 ⊢
  have o0_3 : v0 < v3 := by have := (HX0.out.below Bz).lt; omega
  have o1_3 : v1 < v3 := by have := (HX1.out.below Bz).lt; omega
  have o2_3 : v2 < v3 := by have := (HX2.out.below Bz).lt; omega
  have ow_3 : w.heap.size ≤ v3 := by have := hB.size; have := Bz.size; omega
  replace hq10 := hq10.below hN
  replace hl8 := hl8.below hN
  replace ra9 := ra9.below hN
  replace hB := below_trans (below_trans hB Bz) hN
  replace HX0 := Lib.hid ((HX0.out.below Bz).below hN)
  replace HX1 := Lib.hid ((HX1.out.below Bz).below hN)
  replace HX2 := Lib.hid ((HX2.out.below Bz).below hN)
  have HX3 := Lib.hid x3
  clear x3 hN Bz hb3
  have Bz := Below.refl V4.heap.size V4
  have p1_0 := (HX1.out.below Bz).cell 0 (.bool xl.s) rfl
  have p1_1 := (HX1.out.below Bz).cell 1 (.slice xl.A xl.l xl.c) rfl
  have p1_2 := (HX1.out.below Bz).cell 2 (.bool xl.s') rfl
  have p1_3 := (HX1.out.below Bz).cell 3 (.slice xl.A' xl.l' xl.c') rfl
  have p2_0 := (HX2.out.below Bz).cell 0 (.bool xa.s) rfl
  have p2_1 := (HX2.out.below Bz).cell 1 (.slice xa.A xa.l xa.c) rfl
  have p2_2 := (HX2.out.below Bz).cell 2 (.bool xa.s') rfl
  have p2_3 := (HX2.out.below Bz).cell 3 (.slice xa.A' xa.l' xa.c') rfl
  have p3_4 := (HX3.out.below Bz).cell 4 (.int .i64 xc.dep) rfl
  go_wp2_with fail
  (try simp only [List.append_eq, List.cons_append, List.nil_append])
  refine wp_region_plan (.pure 0 (.pure 1 (.take 2 (.only 3 (.only 4 (.pure 5 (.pure 6 (.pure 7 (.pure 8 (.pure 9 (.pure 10 (.take 11 (.take 12 (.only 13 (.pure 14 (.pure 15 (.pure 16 (.pure 17 (.pure 18 (.pure 19 (.take 20 (.pure 21 (.pure 22 (.pure 23 (.pure 24 (.only 25 (.pure 26 (.pure 27 (.pure 28 .done))))))))))))))))))))))))))))) [] (fun w' => w'.cell? ⟨v1, 0, none⟩ = some (.bool xl.s) ∧ w'.cell? ⟨v1, 1, none⟩ = some (.slice xl.A xl.l xl.c) ∧ w'.cell? ⟨v1, 2, none⟩ = some (.bool xl.s') ∧ w'.cell? ⟨v1, 3, none⟩ = some (.slice xl.A' xl.l' xl.c') ∧ w'.cell? ⟨v2, 0, none⟩ = some (.bool xa.s) ∧ w'.cell? ⟨v2, 1, none⟩ = some (.slice xa.A xa.l xa.c) ∧ w'.cell? ⟨v2, 2, none⟩ = some (.bool xa.s') ∧ w'.cell? ⟨v2, 3, none⟩ = some (.slice xa.A' xa.l' xa.c') ∧ w'.cell? ⟨v3, 4, none⟩ = some (.int .i64 xc.dep)) (by kernel_rfl) (by kernel_rfl) ⟨p1_0, p1_1, p1_2, p1_3, p2_0, p2_1, p2_2, p2_3, p3_4⟩ ?_
  refine wpPlan_pure (o := ⟨some 54, _, _, _, _, _⟩) (v := ?_) rfl rfl (fun w' => ?_) ?_
  rotate_left
  · go_simp <;> with_reducible rfl
  try simp only [Act.put, List.setIfInBounds_toArray, List.set_cons_zero, List.set_cons_succ]
  refine wpPlan_pure (o := ⟨some 55, _, _, _, _, _⟩) (v := ?_) rfl rfl (fun w' => ?_) ?_
  rotate_left
  · go_simp <;> with_reducible rfl
  try simp only [Act.put, List.setIfInBounds_toArray, List.set_cons_zero, List.set_cons_succ]
  refine wpPlan_take (o := ⟨some 56, _, _, _, _, _⟩) (v := ?_) rfl rfl (fun w' hS => ?_) ?_
  rotate_left
  · obtain ⟨p1_0, p1_1, p1_2, p1_3, p2_0, p2_1, p2_2, p2_3, p3_4⟩ := hS; go_simp <;> with_reducible rfl
  try simp only [Act.put, List.setIfInBounds_toArray, List.set_cons_zero, List.set_cons_succ]
  refine wpPlan_call (o := ⟨some 57, _, _, _, _, _⟩) rfl rfl (fun K hK => ?_)
  go_simp
  with_reducible refine (of_q 1 2 (Lib.hid (by omega)) (Lib.hid (by omega)) (Lib.hid (Tab.below hT.out (below_trans hB (below_trans (b := V4) Bz (by go_grown)))))).mono ?_
  rintro e w11 ⟨s11, A11, c11, l11, s11r, A11r, c11r, l11r, rfl, h11, b11⟩
  replace b11 := below_trans (a := V4) (by go_grown) b11
  replace hq10 := hq10.below b11
  replace hl8 := hl8.below b11
  replace ra9 := ra9.below b11
  replace Bz := below_trans Bz b11
  clear b11
  clear p1_0 p1_1 p1_2 p1_3 p2_0 p2_1 p2_2 p2_3 p3_4
  have p1_0 := (HX1.out.below Bz).cell 0 (.bool xl.s) rfl
  have p1_1 := (HX1.out.below Bz).cell 1 (.slice xl.A xl.l xl.c) rfl
  have p1_2 := (HX1.out.below Bz).cell 2 (.bool xl.s') rfl
  have p1_3 := (HX1.out.below Bz).cell 3 (.slice xl.A' xl.l' xl.c') rfl
  have p2_0 := (HX2.out.below Bz).cell 0 (.bool xa.s) rfl
  have p2_1 := (HX2.out.below Bz).cell 1 (.slice xa.A xa.l xa.c) rfl
  have p2_2 := (HX2.out.below Bz).cell 2 (.bool xa.s') rfl
  have p2_3 := (HX2.out.below Bz).cell 3 (.slice xa.A' xa.l' xa.c') rfl
  have p3_4 := (HX3.out.below Bz).cell 4 (.int .i64 xc.dep) rfl
  refine hK.out _ _ ⟨p1_0, p1_1, p1_2, p1_3, p2_0, p2_1, p2_2, p2_3, p3_4⟩ (fun _ => ?_)
  try simp only [Act.put, List.setIfInBounds_toArray, List.set_cons_zero, List.set_cons_succ]
  clear hK K
  refine wpPlan_call (o := ⟨some 58, _, _, _, _, _⟩) rfl rfl (fun K hK => ?_)
  go_simp
  have HS1 : Hid (decide (xl.q = qof 1 2) = true) := Lib.hid (decide_eq_true HXL.out)
  with_reducible refine (same_q (R.below hl8 (by go_grown)) (R.below h11.r (by go_grown)) (by have := s8_half; omega) true HS1).mono ?_
  rintro e w12 ⟨rfl, b12⟩
  replace b12 := below_trans (a := w11) (by go_grown) b12
  replace hq10 := hq10.below b12
  replace hl8 := hl8.below b12
  replace ra9 := ra9.below b12
  replace Bz := below_trans Bz b12
  clear b12
  clear p1_0 p1_1 p1_2 p1_3 p2_0 p2_1 p2_2 p2_3 p3_4
  have p1_0 := (HX1.out.below Bz).cell 0 (.bool xl.s) rfl
  have p1_1 := (HX1.out.below Bz).cell 1 (.slice xl.A xl.l xl.c) rfl
  have p1_2 := (HX1.out.below Bz).cell 2 (.bool xl.s') rfl
  have p1_3 := (HX1.out.below Bz).cell 3 (.slice xl.A' xl.l' xl.c') rfl
  have p2_0 := (HX2.out.below Bz).cell 0 (.bool xa.s) rfl
  have p2_1 := (HX2.out.below Bz).cell 1 (.slice xa.A xa.l xa.c) rfl
  have p2_2 := (HX2.out.below Bz).cell 2 (.bool xa.s') rfl
  have p2_3 := (HX2.out.below Bz).cell 3 (.slice xa.A' xa.l' xa.c') rfl
  have p3_4 := (HX3.out.below Bz).cell 4 (.int .i64 xc.dep) rfl
  refine hK.out _ _ ⟨p1_0, p1_1, p1_2, p1_3, p2_0, p2_1, p2_2, p2_3, p3_4⟩ (fun _ => ?_)
  try simp only [Act.put, List.setIfInBounds_toArray, List.set_cons_zero, List.set_cons_succ]
  clear hK K
  refine wpPlan_pure (o := ⟨some 59, _, _, _, _, _⟩) (v := ?_) rfl rfl (fun w' => ?_) ?_
  rotate_left
  · go_simp <;> with_reducible rfl
  try simp only [Act.put, List.setIfInBounds_toArray, List.set_cons_zero, List.set_cons_succ]
  refine wpPlan_pure (o := ⟨some 60, _, _, _, _, _⟩) (v := ?_) rfl rfl (fun w' => ?_) ?_
  rotate_left
  · go_simp <;> with_reducible rfl
  try simp only [Act.put, List.setIfInBounds_toArray, List.set_cons_zero, List.set_cons_succ]
  refine wpPlan_pure (o := ⟨some 61, _, _, _, _, _⟩) (v := ?_) rfl rfl (fun w' => ?_) ?_
  rotate_left
  · go_simp <;> with_reducible rfl
  try simp only [Act.put, List.setIfInBounds_toArray, List.set_cons_zero, List.set_cons_succ]
  refine wpPlan_pure (o := ⟨some 62, _, _, _, _, _⟩) (v := ?_) rfl rfl (fun w' => ?_) ?_
  rotate_left
  · go_simp <;> with_reducible rfl
  try simp only [Act.put, List.setIfInBounds_toArray, List.set_cons_zero, List.set_cons_succ]
  refine wpPlan_pure (o := ⟨some 63, _, _, _, _, _⟩) (v := ?_) rfl rfl (fun w' => ?_) ?_
  rotate_left
  · go_simp <;> with_reducible rfl
  try simp only [Act.put, List.setIfInBounds_toArray, List.set_cons_zero, List.set_cons_succ]
  refine wpPlan_pure (o := ⟨some 64, _, _, _, _, _⟩) (v := ?_) rfl rfl (fun w' => ?_) ?_
  rotate_left
  · go_simp <;> with_reducible rfl
  try simp only [Act.put, List.setIfInBounds_toArray, List.set_cons_zero, List.set_cons_succ]
  refine wpPlan_take (o := ⟨some 65, _, _, _, _, _⟩) (v := ?_) rfl rfl (fun w' hS => ?_) ?_
  rotate_left
  · obtain ⟨p1_0, p1_1, p1_2, p1_3, p2_0, p2_1, p2_2, p2_3, p3_4⟩ := hS; go_simp <;> with_reducible rfl
  try simp only [Act.put, List.setIfInBounds_toArray, List.set_cons_zero, List.set_cons_succ]
  refine wpPlan_take (o := ⟨some 66, _, _, _, _, _⟩) (v := ?_) rfl rfl (fun w' hS => ?_) ?_
  rotate_left
  · obtain ⟨p1_0, p1_1, p1_2, p1_3, p2_0, p2_1, p2_2, p2_3, p3_4⟩ := hS; go_simp <;> with_reducible rfl
  try simp only [Act.put, List.setIfInBounds_toArray, List.set_cons_zero, List.set_cons_succ]
  refine wpPlan_call (o := ⟨some 67, _, _, _, _, _⟩) rfl rfl (fun K hK => ?_)
  go_simp
  have HS2 : Hid (decide (xa.q = xl.q) = true) := Lib.hid (decide_eq_true (HXA.out.trans HXL.out.symm))
  with_reducible refine (same_q (R.below ra9 (by go_grown)) (R.below hl8 (by go_grown)) (by have := s8_half; omega) true HS2).mono ?_
  rintro e w13 ⟨rfl, b13⟩
  replace b13 := below_trans (a := w12) (by go_grown) b13
  replace hq10 := hq10.below b13
  replace Bz := below_trans Bz b13
  clear b13
  clear p1_0 p1_1 p1_2 p1_3 p2_0 p2_1 p2_2 p2_3 p3_4
  have p1_0 := (HX1.out.below Bz).cell 0 (.bool xl.s) rfl
  have p1_1 := (HX1.out.below Bz).cell 1 (.slice xl.A xl.l xl.c) rfl
  have p1_2 := (HX1.out.below Bz).cell 2 (.bool xl.s') rfl
  have p1_3 := (HX1.out.below Bz).cell 3 (.slice xl.A' xl.l' xl.c') rfl
  have p2_0 := (HX2.out.below Bz).cell 0 (.bool xa.s) rfl
  have p2_1 := (HX2.out.below Bz).cell 1 (.slice xa.A xa.l xa.c) rfl
  have p2_2 := (HX2.out.below Bz).cell 2 (.bool xa.s') rfl
  have p2_3 := (HX2.out.below Bz).cell 3 (.slice xa.A' xa.l' xa.c') rfl
  have p3_4 := (HX3.out.below Bz).cell 4 (.int .i64 xc.dep) rfl
  refine hK.out _ _ ⟨p1_0, p1_1, p1_2, p1_3, p2_0, p2_1, p2_2, p2_3, p3_4⟩ (fun _ => ?_)
  try simp only [Act.put, List.setIfInBounds_toArray, List.set_cons_zero, List.set_cons_succ]
  clear hK K
  refine wpPlan_pure (o := ⟨some 68, _, _, _, _, _⟩) (v := ?_) rfl rfl (fun w' => ?_) ?_
  rotate_left
  · go_simp <;> with_reducible rfl
  try simp only [Act.put, List.setIfInBounds_toArray, List.set_cons_zero, List.set_cons_succ]
  refine wpPlan_pure (o := ⟨some 69, _, _, _, _, _⟩) (v := ?_) rfl rfl (fun w' => ?_) ?_
  rotate_left
  · go_simp <;> with_reducible rfl
  try simp only [Act.put, List.setIfInBounds_toArray, List.set_cons_zero, List.set_cons_succ]
  refine wpPlan_pure (o := ⟨some 70, _, _, _, _, _⟩) (v := ?_) rfl rfl (fun w' => ?_) ?_
  rotate_left
  · go_simp <;> with_reducible rfl
  try simp only [Act.put, List.setIfInBounds_toArray, List.set_cons_zero, List.set_cons_succ]
  refine wpPlan_pure (o := ⟨some 71, _, _, _, _, _⟩) (v := ?_) rfl rfl (fun w' => ?_) ?_
  rotate_left
  · go_simp <;> with_reducible rfl
  try simp only [Act.put, List.setIfInBounds_toArray, List.set_cons_zero, List.set_cons_succ]
  refine wpPlan_pure (o := ⟨some 72, _, _, _, _, _⟩) (v := ?_) rfl rfl (fun w' => ?_) ?_
  rotate_left
  · go_simp <;> with_reducible rfl
  try simp only [Act.put, List.setIfInBounds_toArray, List.set_cons_zero, List.set_cons_succ]
  refine wpPlan_pure (o := ⟨some 73, _, _, _, _, _⟩) (v := ?_) rfl rfl (fun w' => ?_) ?_
  rotate_left
  · go_simp <;> with_reducible rfl
  try simp only [Act.put, List.setIfInBounds_toArray, List.set_cons_zero, List.set_cons_succ]
  refine wpPlan_take (o := ⟨some 74, _, _, _, _, _⟩) (v := ?_) rfl rfl (fun w' hS => ?_) ?_
  rotate_left
  · obtain ⟨p1_0, p1_1, p1_2, p1_3, p2_0, p2_1, p2_2, p2_3, p3_4⟩ := hS; go_simp <;> with_reducible rfl
  try simp only [Act.put, List.setIfInBounds_toArray, List.set_cons_zero, List.set_cons_succ]
  refine wpPlan_pure (o := ⟨some 75, _, _, _, _, _⟩) (v := ?_) rfl rfl (fun w' => ?_) ?_
  rotate_left
  · go_simp <;> with_reducible rfl
  try simp only [Act.put, List.setIfInBounds_toArray, List.set_cons_zero, List.set_cons_succ]
  refine wpPlan_pure (o := ⟨some 76, _, _, _, _, _⟩) (v := ?_) rfl rfl (fun w' => ?_) ?_
  rotate_left
  · go_simp <;> with_reducible rfl
  try simp only [Act.put, List.setIfInBounds_toArray, List.set_cons_zero, List.set_cons_succ]
  refine wpPlan_pure (o := ⟨some 77, _, _, _, _, _⟩) (v := ?_) rfl rfl (fun w' => ?_) ?_
  rotate_left
  · go_simp <;> with_reducible rfl
  try simp only [Act.put, List.setIfInBounds_toArray, List.set_cons_zero, List.set_cons_succ]
  refine wpPlan_pure (o := ⟨some 78, _, _, _, _, _⟩) (v := ?_) rfl rfl (fun w' => ?_) ?_
  rotate_left
  · go_simp <;> with_reducible rfl
  try simp only [Act.put, List.setIfInBounds_toArray, List.set_cons_zero, List.set_cons_succ]
  refine wpPlan_call (o := ⟨some 79, _, _, _, _, _⟩) rfl rfl (fun K hK => ?_)
  go_simp
  with_reducible refine (len_q (QH.below hq10 (by go_grown)) 1 (by have := LC.out; omega)).mono ?_
  rintro e w14 ⟨rfl, b14⟩
  replace b14 := below_trans (a := w13) (by go_grown) b14
  replace Bz := below_trans Bz b14
  clear b14
  clear p1_0 p1_1 p1_2 p1_3 p2_0 p2_1 p2_2 p2_3 p3_4
  have p1_0 := (HX1.out.below Bz).cell 0 (.bool xl.s) rfl
  have p1_1 := (HX1.out.below Bz).cell 1 (.slice xl.A xl.l xl.c) rfl
  have p1_2 := (HX1.out.below Bz).cell 2 (.bool xl.s') rfl
  have p1_3 := (HX1.out.below Bz).cell 3 (.slice xl.A' xl.l' xl.c') rfl
  have p2_0 := (HX2.out.below Bz).cell 0 (.bool xa.s) rfl
  have p2_1 := (HX2.out.below Bz).cell 1 (.slice xa.A xa.l xa.c) rfl
  have p2_2 := (HX2.out.below Bz).cell 2 (.bool xa.s') rfl
  have p2_3 := (HX2.out.below Bz).cell 3 (.slice xa.A' xa.l' xa.c') rfl
  have p3_4 := (HX3.out.below Bz).cell 4 (.int .i64 xc.dep) rfl
  refine hK.out _ _ ⟨p1_0, p1_1, p1_2, p1_3, p2_0, p2_1, p2_2, p2_3, p3_4⟩ (fun _ => ?_)
  try simp only [Act.put, List.setIfInBounds_toArray, List.set_cons_zero, List.set_cons_succ]
  clear hK K
  refine wpPlan_pure (o := ⟨some 80, _, _, _, _, _⟩) (v := ?_) rfl rfl (fun w' => ?_) ?_
  rotate_left
  · go_simp <;> with_reducible rfl
  try simp only [Act.put, List.setIfInBounds_toArray, List.set_cons_zero, List.set_cons_succ]
  refine wpPlan_pure (o := ⟨some 81, _, _, _, _, _⟩) (v := ?_) rfl rfl (fun w' => ?_) ?_
  rotate_left
  · go_simp <;> with_reducible rfl
  try simp only [Act.put, List.setIfInBounds_toArray, List.set_cons_zero, List.set_cons_succ]
  refine wpPlan_pure (o := ⟨some 0, _, _, _, _, _⟩) (v := ?_) rfl rfl (fun w' => ?_) ?_
  rotate_left
  · go_simp <;> with_reducible rfl
  try simp only [Act.put, List.setIfInBounds_toArray, List.set_cons_zero]
  refine wpPlan_done ?_
  go_wp2_with fail
  go_ret
  have hF := below_trans (c := w14) hB Bz
  exact ⟨rfl, below_trans hF (by go_grown)⟩
end Go.Proofs.YtihdaemjabhhkaaGreatDoor
