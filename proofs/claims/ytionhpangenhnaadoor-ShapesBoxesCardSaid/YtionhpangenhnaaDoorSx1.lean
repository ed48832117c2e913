/-
  The examples of layer 10: small networks. Written by wip/gen/sx1.py.
-/
import Derived.Test.YtionhpangenhnaaDoorSh11
namespace Go.Proofs.YtionhpangenhnaaDoor
open Go.RowKit Tw

/-- A literal of structs. -/
theorem Sl.lit {α : Type} {f : α → List Value} {k : Nat} {w : World} {b : Nat} {cs : Array Value} {te : TypeId} {L : List α} {n : Nat} (h : Bx w b cs te) (hcs : cs.toList = flat f L) (hl : L.length = n) (hk : ∀ x, (f x).length = k) : Sl f k w (some ⟨b, 0, none⟩) n n L := by
  subst hl
  refine ⟨rfl, by rw [flat_len hk], _, _, rfl, (fun h => (by cases h)), fun a ha j u hu => ?_⟩
  cases ha
  rw [add_off, Nat.zero_add]
  refine h.cell j u ?_
  rw [← hcs] at hu
  simpa using hu
theorem sz_one {n d : Int} (hn : n.natAbs < 18446744073709551616) (hd : 0 < d) (hd' : d.natAbs < 18446744073709551616) : sz (qof n d) ≤ 1 := by
  have := sz_qof (n := n) (d := d) (a := 1) (b := 1) hd (nl_le_of_lt (by rw [Nat.pow_one]; exact hn)) (nl_le_of_lt (by rw [Nat.pow_one]; exact hd'))
  omega
/-- A network told. -/
def TellsNt (w : World) (inp : Int) (P : List Ly → Prop) (e : Ending) (w' : World) : Prop :=
  ∃ A n c L, e = .returned (.agg #[.int .i64 inp, .slice A n c]) ∧ Sl Ly.cs 13 w' A n c L ∧ n ≤ 20 ∧ (∀ y ∈ L, LyOk w' 1 y) ∧ P L ∧ Below w.heap.size w w'
/-- The layers of the chapter's network. -/
def smallL (_at_ : Int) (rA : Option Addr) (v : Vc) (bA : Option Addr) (b : Fr) : List Ly :=
  [⟨1, rA, 1, 1, [v], bA, 1, 1, [b], 0, 0, 0, 0, 0, 0, 0, 0, none, 0, 0, [], none, 0, 0, []⟩, ⟨3, none, 0, 0, [], none, 0, 0, [], 0, 0, 0, 0, 0, 0, 0, 0, none, 0, 0, [], none, 0, 0, []⟩]
theorem small_sizes {at_ : Int} {rA : Option Addr} {v : Vc} {bA : Option Addr} {b f : Fr} (hv : v.L = [⟨at_, f⟩]) (hn : v.n = 1) (hf : f.q ≠ 0 ∧ f.ex = true) (hb : b.ex = true) :
    sizesF 2 (smallL at_ rA v bA b) = if 0 ≤ at_ ∧ at_ < 2 then .ok [2, 1, 1] else .error 22 := by
  by_cases h : 0 ≤ at_ ∧ at_ < 2
  · rw [if_pos h]
    have e1 : rightB v.L 2 = true := by rw [hv]; simp [rightB, rightAt, h.1, h.2, hf.1, hf.2]
    simp [sizesF, smallL, stepsF, behindF, affineF, plainB, nums, e1, hb, lens, hn, reluB, Except.map]
  · rw [if_neg h]
    have e1 : rightB v.L 2 = false := by
      rw [hv]
      have : ¬ (0 ≤ at_) ∨ ¬ (at_ < 2) := by omega
      rcases this with h | h <;> simp [rightB, rightAt, h]
    simp [sizesF, smallL, stepsF, behindF, affineF, plainB, nums, e1]
def SmallP (at_ : Int) (L : List Ly) : Prop := L.length = 2 ∧ sizesF 2 L = if 0 ≤ at_ ∧ at_ < 2 then .ok [2, 1, 1] else .error 22
set_option maxRecDepth 100000 in
set_option maxHeartbeats 4000000 in
theorem small_q {w : World} (at_ : Int) (hT : Hid (Tab w)) : Calls Tryd.prog 15 #[.int .i64 at_] w (TellsNt w 2 (SmallP at_)) := by
  obtain ⟨W, hW, x0, hB⟩ := boxes1 w #[.int .i64 0, .slice none 0 0] 30
  have HX0 := Lib.hid x0
  clear x0
  have Bz := Below.refl W.heap.size W
  go_enter Tryd.func15, Tryd.ntmps15
  go_upto_region 1 with (fail)
  rw [← hW]
  clear hW
  go_wp2_with fail
  with_reducible refine (of_q 3 1 (Lib.hid (by omega)) (Lib.hid (by omega)) (Lib.hid (Tab.below hT.out (below_trans hB (below_trans (b := W) Bz (by go_grown)))))).mono ?_
  rintro e w1 ⟨s1, A1, c1, l1, s1r, A1r, c1r, l1r, rfl, h1, b1⟩
  replace b1 := below_trans (a := W) (by go_grown) b1
  replace Bz := below_trans Bz b1
  clear b1
  go_wp2_with fail
  obtain ⟨V1, hW, x1, hN⟩ := boxes1 w1 #[.int .i64 at_, .bool s1, .slice A1 l1 c1, .bool s1r, .slice A1r l1r c1r] 81
  have hs1 : V1.heap.size = w1.heap.size + 1 := by rw [hW]; simp
  rw [← hW]
  clear hW
  obtain ⟨v1, hb1⟩ : ∃ b, b = w1.heap.size := ⟨_, rfl⟩
  rw [← hb1] at x1 hs1 ⊢
  have o0_1 : w.heap.size < v1 := by have := (HX0.out.below Bz).lt; omega
  have ow_1 : w.heap.size ≤ v1 := by have := hB.size; have := Bz.size; omega
  replace h1 := h1.below hN
  replace hB := below_trans (below_trans hB Bz) hN
  replace HX0 := Lib.hid ((HX0.out.below Bz).below hN)
  have HX1 := Lib.hid x1
  clear x1 hN Bz hb1
  have Bz := Below.refl V1.heap.size V1
  obtain ⟨V2, hW, x2, hN⟩ := boxes1 V1 #[.slice (some ⟨v1, 0, none⟩) 1 1] 61
  have hs2 : V2.heap.size = V1.heap.size + 1 := by rw [hW]; simp
  rw [← hW]
  clear hW
  rw [hs1] at x2 hs2
  obtain ⟨v2, hb2⟩ : ∃ b, b = v1 + 1 := ⟨_, rfl⟩
  rw [← hb2] at x2 hs2  ⊢
  have o0_2 : w.heap.size < v2 := by have := (HX0.out.below Bz).lt; omega
  have o1_2 : v1 < v2 := by have := (HX1.out.below Bz).lt; omega
  have ow_2 : w.heap.size ≤ v2 := by have := hB.size; have := Bz.size; omega
  replace h1 := h1.below hN
  replace hB := below_trans (below_trans hB Bz) hN
  replace HX0 := Lib.hid ((HX0.out.below Bz).below hN)
  replace HX1 := Lib.hid ((HX1.out.below Bz).below hN)
  have HX2 := Lib.hid x2
  clear x2 hN Bz hb2
  have Bz := Below.refl V2.heap.size V2
  clear hs1
  with_reducible refine (of_q 1 2 (Lib.hid (by omega)) (Lib.hid (by omega)) (Lib.hid (Tab.below hT.out (below_trans hB (below_trans (b := V2) Bz (by go_grown)))))).mono ?_
  rintro e w2 ⟨s2, A2, c2, l2, s2r, A2r, c2r, l2r, rfl, h2, b2⟩
  replace b2 := below_trans (a := V2) (by go_grown) b2
  replace h1 := h1.below b2
  replace Bz := below_trans Bz b2
  clear b2
  have p0_0 := (HX0.out.below Bz).cell 0 (.int .i64 0) rfl
  have p0_1 := (HX0.out.below Bz).cell 1 (.slice none 0 0) rfl
  have f0_0 := (HX0.out.below Bz).frozen 0
  have f0_1 := (HX0.out.below Bz).frozen 1
  have y0 := (HX0.out.below Bz).lt
  go_wp2_with fail
  clear p0_0 p0_1 f0_0 f0_1 y0
  have p0_0 := (HX0.out.below Bz).cell 0 (.int .i64 0) rfl
  have p0_1 := (HX0.out.below Bz).cell 1 (.slice none 0 0) rfl
  obtain ⟨V3, hW, x, kk, far, bel⟩ := store2 (.int .i64 2) (.slice (some ⟨w2.heap.size + 1, 0, none⟩) 2 2) (HX0.out.below Bz) (fun _ e => by cases e) (fun _ e => by cases e)
  have hzV3 : V3.heap.size = w2.heap.size := by rw [hW]; simp
  rw [← hW]
  clear hW
  replace h1 := h1.k kk
  replace h2 := h2.k kk
  replace hB := bel w.heap.size w (by omega) (below_trans hB Bz)
  replace HX1 := Lib.hid (far _ _ _ (by omega) (HX1.out.below Bz))
  replace HX2 := Lib.hid (far _ _ _ (by omega) (HX2.out.below Bz))
  replace HX0 := Lib.hid x
  clear x kk far bel Bz
  have Bz := Below.refl V3.heap.size V3
  clear p0_0 p0_1
  have hz : V3.heap.size = w2.heap.size := by omega
  obtain ⟨V4, hW, x3, hN⟩ := boxes1 V3 #[.bool s2, .slice A2 l2 c2, .bool s2r, .slice A2r l2r c2r] 27
  have hs3 : V4.heap.size = V3.heap.size + 1 := by rw [hW]; simp
  rw [← hW]
  clear hW
  rw [hz] at x3 hs3
  obtain ⟨v3, hb3⟩ : ∃ b, b = w2.heap.size := ⟨_, rfl⟩
  rw [← hb3] at x3 hs3 HX0 ⊢
  have o0_3 : w.heap.size < v3 := by have := (HX0.out.below Bz).lt; omega
  have o1_3 : v1 < v3 := by have := (HX1.out.below Bz).lt; omega
  have o2_3 : v2 < v3 := by have := (HX2.out.below Bz).lt; omega
  have ow_3 : w.heap.size ≤ v3 := by have := hB.size; have := Bz.size; omega
  replace h1 := h1.below hN
  replace h2 := h2.below hN
  replace hB := below_trans (below_trans hB Bz) hN
  replace HX0 := Lib.hid ((HX0.out.below Bz).below hN)
  replace HX1 := Lib.hid ((HX1.out.below Bz).below hN)
  replace HX2 := Lib.hid ((HX2.out.below Bz).below hN)
  have HX3 := Lib.hid x3
  clear x3 hN Bz hb3
  have Bz := Below.refl V4.heap.size V4
  obtain ⟨V5, hW, x4, hN⟩ := boxes1 V4 #[.int .u8 1, .slice (some ⟨v2, 0, none⟩) 1 1, .slice (some ⟨v3, 0, none⟩) 1 1, .int .i64 0, .int .i64 0, .int .i64 0, .int .i64 0, .int .i64 0, .int .i64 0, .int .i64 0, .int .i64 0, .slice none 0 0, .slice none 0 0, .int .u8 3, .slice none 0 0, .slice none 0 0, .int .i64 0, .int .i64 0, .int .i64 0, .int .i64 0, .int .i64 0, .int .i64 0, .int .i64 0, .int .i64 0, .slice none 0 0, .slice none 0 0] 38
  have hs4 : V5.heap.size = V4.heap.size + 1 := by rw [hW]; simp
  rw [← hW]
  clear hW
  rw [hs3] at x4 hs4
  obtain ⟨v4, hb4⟩ : ∃ b, b = v3 + 1 := ⟨_, rfl⟩
  rw [← hb4] at x4 hs4 HX0 ⊢
  have o0_4 : w.heap.size < v4 := by have := (HX0.out.below Bz).lt; omega
  have o1_4 : v1 < v4 := by have := (HX1.out.below Bz).lt; omega
  have o2_4 : v2 < v4 := by have := (HX2.out.below Bz).lt; omega
  have o3_4 : v3 < v4 := by have := (HX3.out.below Bz).lt; omega
  have ow_4 : w.heap.size ≤ v4 := by have := hB.size; have := Bz.size; omega
  replace h1 := h1.below hN
  replace h2 := h2.below hN
  replace hB := below_trans (below_trans hB Bz) hN
  replace HX0 := Lib.hid ((HX0.out.below Bz).below hN)
  replace HX1 := Lib.hid ((HX1.out.below Bz).below hN)
  replace HX2 := Lib.hid ((HX2.out.below Bz).below hN)
  replace HX3 := Lib.hid ((HX3.out.below Bz).below hN)
  have HX4 := Lib.hid x4
  clear x4 hN Bz hb4
  have Bz := Below.refl V5.heap.size V5
  clear hs3
  have p0_0 := (HX0.out.below Bz).cell 0 (.int .i64 2) rfl
  have p0_1 := (HX0.out.below Bz).cell 1 (.slice (some ⟨v4, 0, none⟩) 2 2) rfl
  have f0_0 := (HX0.out.below Bz).frozen 0
  have f0_1 := (HX0.out.below Bz).frozen 1
  have y0 := (HX0.out.below Bz).lt
  (try simp only [Exit.inBlock, Exit.then])
  refine bodyPost_ret (by simp [results, Tryd.results15, go_sem, p0_0, p0_1]; try rfl) rfl ?_
  have hF := below_trans (c := V5) hB Bz
  have F1 : FrOk V5 1 ⟨s1, A1, c1, l1, s1r, A1r, c1r, l1r, qof 3 1, true⟩ := (h1.below (Below.refl _ _)).fr (sz_one (by decide) (by decide) (by decide))
  have F2 : FrOk V5 1 ⟨s2, A2, c2, l2, s2r, A2r, c2r, l2r, qof 1 2, true⟩ := (h2.below (Below.refl _ _)).fr (sz_one (by decide) (by decide) (by decide))
  have S1 := Sl.lit (f := Tm.cs) (L := [⟨at_, ⟨s1, A1, c1, l1, s1r, A1r, c1r, l1r, qof 3 1, true⟩⟩]) HX1.out rfl rfl Tm.cs_len
  have S2 := Sl.lit (f := Vc.cs) (L := [⟨some ⟨v1, 0, none⟩, 1, 1, [⟨at_, ⟨s1, A1, c1, l1, s1r, A1r, c1r, l1r, qof 3 1, true⟩⟩]⟩]) HX2.out rfl rfl Vc.cs_len
  have S3 := Sl.lit (f := Fr.cs) (L := [⟨s2, A2, c2, l2, s2r, A2r, c2r, l2r, qof 1 2, true⟩]) HX3.out rfl rfl Fr.cs_len
  have S4 := Sl.lit (f := Ly.cs) (L := smallL at_ (some ⟨v2, 0, none⟩) ⟨some ⟨v1, 0, none⟩, 1, 1, [⟨at_, ⟨s1, A1, c1, l1, s1r, A1r, c1r, l1r, qof 3 1, true⟩⟩]⟩ (some ⟨v3, 0, none⟩) ⟨s2, A2, c2, l2, s2r, A2r, c2r, l2r, qof 1 2, true⟩) HX4.out rfl rfl Ly.cs_len
  refine ⟨_, _, _, _, rfl, S4.below Bz, by omega, fun y hy => ?_, ⟨rfl, small_sizes rfl rfl ⟨?_, rfl⟩ rfl⟩, hF⟩
  · unfold smallL at hy
    simp only [List.mem_cons, List.not_mem_nil, or_false] at hy
    rcases hy with rfl | rfl
    · refine LyOk.below ⟨S2, fun v hv => ?_, S3, fun x hx => ?_, Sl.nil _, fun x hx => ?_, Sl.nil _, fun x hx => ?_, ⟨by simp, by simp, by simp, by simp⟩⟩ Bz
      · obtain rfl := List.mem_singleton.1 hv; exact ⟨S1, fun t ht => by obtain rfl := List.mem_singleton.1 ht; exact F1, by simp⟩
      · obtain rfl := List.mem_singleton.1 hx; exact F2
      · cases hx
      · cases hx
    · exact ⟨Sl.nil _, fun x hx => (by cases hx), Sl.nil _, fun x hx => (by cases hx), Sl.nil _, fun x hx => (by cases hx), Sl.nil _, fun x hx => (by cases hx), ⟨by simp, by simp, by simp, by simp⟩⟩
  · show qof 3 1 ≠ 0; decide
/-- The fraction 0, as Go makes it. -/
def zFr : Fr := ⟨false, none, 0, 0, false, none, 0, 0, 0, true⟩
theorem RN.zero (w : World) : RN w false none 0 0 false none 0 0 0 := ⟨J.zero w, J.zero w⟩
theorem sz_zero : sz 0 ≤ 1 := by
  show max (nl 0) (nl 1) ≤ 1
  rw [nl_zero, nl_one]; decide
theorem zFr_ok (w : World) {m : Nat} (hm : 1 ≤ m) : FrOk w m zFr := (RN.zero w).fr (Nat.le_trans sz_zero hm)
/-- The layer of the chapter's picture. -/
def picL (bA kA : Option Addr) : List Ly := [⟨2, none, 0, 0, [], bA, 1, 1, [zFr], 1, 2, 2, 1, 2, 2, 1, 1, kA, 4, 4, [zFr, zFr, zFr, zFr], none, 0, 0, []⟩]
theorem pic_sizes (bA kA : Option Addr) : sizesF 4 (picL bA kA) = .ok [4, 9] := by
  simp [sizesF, picL, stepsF, behindF, convF, sides, cHigh, cWide, cEach, cUnits, zFr, Except.map]
theorem pic_tells {w w' : World} {bb kb lb : Nat} {cb ck cl : Array Value} {tb tk tl : TypeId} (hb : Bx w' bb cb tb) (hk : Bx w' kb ck tk) (hl : Bx w' lb cl tl) (e1 : cb.toList = flat Fr.cs [zFr]) (e2 : ck.toList = flat Fr.cs [zFr, zFr, zFr, zFr]) (e3 : cl.toList = flat Ly.cs (picL (some ⟨bb, 0, none⟩) (some ⟨kb, 0, none⟩))) (hB : Below w.heap.size w w') :
    TellsNt w 4 (fun L => L.length = 1 ∧ sizesF 4 L = .ok [4, 9]) (.returned (.agg #[.int .i64 4, .slice (some ⟨lb, 0, none⟩) 1 1])) w' := by
  refine ⟨_, _, _, picL (some ⟨bb, 0, none⟩) (some ⟨kb, 0, none⟩), rfl, Sl.lit hl e3 rfl Ly.cs_len, by omega, fun y hy => ?_, ⟨rfl, pic_sizes _ _⟩, hB⟩
  unfold picL at hy
  obtain rfl := List.mem_singleton.1 hy
  have z : ∀ x : Fr, x = zFr → FrOk w' 1 x := fun x hx => by rw [hx]; exact zFr_ok w' (Nat.le_refl _)
  exact ⟨Sl.nil _, fun x hx => (by cases hx), Sl.lit hb e1 rfl Fr.cs_len, fun x hx => z x (by simpa using hx), Sl.lit hk e2 rfl Fr.cs_len, fun x hx => z x (by simpa using hx), Sl.nil _, fun x hx => (by cases hx), ⟨by simp, by simp, by simp, by simp⟩⟩
theorem make4 (n : Nat) (hn : n = 4 ∨ n = 1) (w : World) : (Instr.makeSlice 35 (.int .i64 (n : Int)) (.int .i64 (n : Int))).run Tryd.prog w = .ok (.slice (some ⟨w.heap.size, 0, none⟩) n n) (w.alloc (.cells (flat Fr.cs (List.replicate n ⟨false, none, 0, 0, false, none, 0, 0, 0, true⟩)).toArray 27)) := by
  rcases hn with rfl | rfl <;> kernel_rfl
set_option maxRecDepth 100000 in
set_option maxHeartbeats 4000000 in
theorem picture_q {w : World} : Calls Tryd.prog 8 #[] w (TellsNt w 4 fun L => L.length = 1 ∧ sizesF 4 L = .ok [4, 9]) := by
  have hm4 := make4 4 (.inl rfl)
  have hm1 := make4 1 (.inr rfl)
  simp only [Int.cast_ofNat_Int] at hm4 hm1
  go_enter Tryd.func8, Tryd.ntmps8
  go_upto_region 1 with (fail)
  go_region_with (fail)
  · obtain ⟨W, hW, x0, x1, x2, x3, hB⟩ := boxes4 w (#[.int .i64 4, .slice (some ⟨w.heap.size + 1 + 1 + 1, 0, none⟩) 1 1]) 30 ((flat Fr.cs [⟨false, none, 0, 0, false, none, 0, 0, 0, true⟩, ⟨false, none, 0, 0, false, none, 0, 0, 0, true⟩, ⟨false, none, 0, 0, false, none, 0, 0, 0, true⟩, ⟨false, none, 0, 0, false, none, 0, 0, 0, true⟩]).toArray) 27 ((flat Fr.cs [⟨false, none, 0, 0, false, none, 0, 0, 0, true⟩]).toArray) 27 (#[.int .u8 2, .slice none 0 0, .slice (some ⟨w.heap.size + 1 + 1, 0, none⟩) 1 1, .int .i64 1, .int .i64 2, .int .i64 2, .int .i64 1, .int .i64 2, .int .i64 2, .int .i64 1, .int .i64 1, .slice (some ⟨w.heap.size + 1, 0, none⟩) 4 4, .slice none 0 0]) 38
    rw [← hW]
    clear hW
    have p0_0 := x0.cell 0 (.int .i64 4) rfl
    have p0_1 := x0.cell 1 (.slice (some ⟨w.heap.size + 1 + 1 + 1, 0, none⟩) 1 1) rfl
    go_wp2_with fail
    (try simp only [Exit.inBlock, Exit.then])
    refine bodyPost_ret (by simp [results, Tryd.results8, go_sem, p0_0, p0_1]; try rfl) rfl ?_
    exact pic_tells x2.drew x1.drew x3.drew (by rfl) (by rfl) (by rfl) (Below.drew hB)
  · obtain ⟨W, hW, x0, x1, x2, x3, hB⟩ := boxes4 w (#[.int .i64 4, .slice (some ⟨w.heap.size + 1 + 1 + 1, 0, none⟩) 1 1]) 30 ((flat Fr.cs [⟨false, none, 0, 0, false, none, 0, 0, 0, true⟩]).toArray) 27 ((flat Fr.cs [⟨false, none, 0, 0, false, none, 0, 0, 0, true⟩, ⟨false, none, 0, 0, false, none, 0, 0, 0, true⟩, ⟨false, none, 0, 0, false, none, 0, 0, 0, true⟩, ⟨false, none, 0, 0, false, none, 0, 0, 0, true⟩]).toArray) 27 (#[.int .u8 2, .slice none 0 0, .slice (some ⟨w.heap.size + 1, 0, none⟩) 1 1, .int .i64 1, .int .i64 2, .int .i64 2, .int .i64 1, .int .i64 2, .int .i64 2, .int .i64 1, .int .i64 1, .slice (some ⟨w.heap.size + 1 + 1, 0, none⟩) 4 4, .slice none 0 0]) 38
    rw [← hW]
    clear hW
    have p0_0 := x0.cell 0 (.int .i64 4) rfl
    have p0_1 := x0.cell 1 (.slice (some ⟨w.heap.size + 1 + 1 + 1, 0, none⟩) 1 1) rfl
    go_wp2_with fail
    (try simp only [Exit.inBlock, Exit.then])
    refine bodyPost_ret (by simp [results, Tryd.results8, go_sem, p0_0, p0_1]; try rfl) rfl ?_
    exact pic_tells x1.drew x2.drew x3.drew (by rfl) (by rfl) (by rfl) (Below.drew hB)
end Go.Proofs.YtionhpangenhnaaDoor
