/-
  Whole numbers: DivMod. Written by wip/gen/w10.py.
-/
import Derived.Test.YtjlfcnkndndgaaaDoorW9
namespace Go.Proofs.YtjlfcnkndndgaaaDoor
open Go.RowKit Tw

/-- Two structs and two places of results. -/
theorem box4 (w : World) (v0 v1 u0 u1 r0 r1 s0 s1 : Value) : ∃ W, W = (((w.alloc (.cells #[v0, v1] 43)).alloc (.cells #[u0, u1] 43)).alloc (.cells #[r0, r1] 43)).alloc (.cells #[s0, s1] 43) ∧ IBox W w.heap.size v0 v1 ∧ IBox W (w.heap.size + 1) u0 u1 ∧ IBox W (w.heap.size + 1 + 1) r0 r1 ∧ IBox W (w.heap.size + 1 + 1 + 1) s0 s1 ∧ Below w.heap.size w W := by
  obtain ⟨W, hW, x0, x1, x2, hB⟩ := box2 w v0 v1 u0 u1 r0 r1
  have hs : W.heap.size = w.heap.size + 1 + 1 + 1 := by rw [hW]; simp
  have := IBox.new W s0 s1
  rw [hs] at this
  refine ⟨_, rfl, ?_, ?_, ?_, ?_, ?_⟩
  · rw [← hW]; exact x0.below (lit_below _ _)
  · rw [← hW]; exact x1.below (lit_below _ _)
  · rw [← hW]; exact x2.below (lit_below _ _)
  · rw [← hW]; exact this
  · rw [← hW]; exact below_trans hB (lit_below _ _)
/-- Two whole numbers told. -/
def TellsZ2 (w : World) (q r : Int) (m m' : Nat) (e : Ending) (w' : World) : Prop :=
  ∃ b A c l b' A' c' l', e = .returned (.tuple #[.agg #[.bool b, .slice A l c], .agg #[.bool b', .slice A' l' c']]) ∧ J w' b A c l q ∧ J w' b' A' c' l' r ∧ l ≤ m ∧ l' ≤ m' ∧ Below w.heap.size w w'
theorem J.put {w : World} {s s' : Bool} {A B' : Option Addr} {c l b m k : Nat} {z : Int} {u v : Value} (h : J w s A c l z) (x : IBox w b (.bool s') (.slice B' m k)) :
    J ((w.setCell ⟨b, 0, none⟩ u).setCell ⟨b, 1, none⟩ v) s A c l z := h.box x.look.1.1 x.look.1.2 (fun _ e => by cases e)
theorem sgn_divmod (b b' : Bool) (n n' : Nat) (h : n' ≠ 0) :
    sgn b n / sgn b' n' = sgn (b != b') (if b = true ∧ n % n' ≠ 0 then n / n' + 1 else n / n') ∧ sgn b n % sgn b' n' = ((if b = true ∧ n % n' ≠ 0 then n' - n % n' else n % n' : Nat) : Int) := by
  have hp : (0 : Int) < (n' : Int) := by omega
  have key : sgn b n / (n' : Int) = sgn b (if b = true ∧ n % n' ≠ 0 then n / n' + 1 else n / n') ∧ sgn b n % (n' : Int) = ((if b = true ∧ n % n' ≠ 0 then n' - n % n' else n % n' : Nat) : Int) := by
    have hd : (n : Int) = (n' : Int) * ((n / n' : Nat) : Int) + ((n % n' : Nat) : Int) := by
      have := (Nat.div_add_mod n n').symm
      exact_mod_cast this
    have hm := Nat.mod_lt n (Nat.pos_of_ne_zero h)
    rw [Int.ediv_emod_unique hp]
    generalize n / n' = q at *
    generalize n % n' = r at *
    cases b
    · simp [sgn]; omega
    · by_cases hr : r = 0
      · subst hr
        simp [sgn]
        rw [hd]
        refine ⟨by rw [Int.mul_neg]; simp, by omega⟩
      · have hc : ((n' - r : Nat) : Int) = (n' : Int) - r := by omega
        simp only [ne_eq, hr, not_false_eq_true, and_self, if_true, sgn]
        rw [hc, hd]
        refine ⟨?_, by omega, by omega⟩
        rw [Int.natCast_add, Int.mul_neg, Int.mul_add]
        simp only [Int.natCast_one, Int.mul_one]
        omega
  cases b'
  · simpa [sgn] using key
  · have e : sgn true n' = -(n' : Int) := rfl
    rw [e, Int.ediv_neg, Int.emod_neg, key.1, key.2]
    refine ⟨?_, rfl⟩
    generalize (if b = true ∧ n % n' ≠ 0 then n / n' + 1 else n / n') = q
    cases b <;> simp [sgn]
section
variable {w : World} {A A' : Option Addr} {c c' l l' : Nat} {b b' : Bool} {z z' : Int}
theorem J.zero (w : World) : J w false none 0 0 0 := ⟨⟨by rw [show (0 : Int).natAbs = 0 from rfl, limbs_zero]; exact Nums.nil _ _ _, rfl⟩, rfl⟩
theorem divmod_z0 (h' : I w b' A' c' l' 0) (hl : l' ≤ 800000) :
    Calls Tryd.prog 50 #[.agg #[.bool b, .slice A l c], .agg #[.bool b', .slice A' l' c']] w (TellsZ2 w 0 0 0 0) := by
  obtain ⟨W, hW, x0, x1, x2, x3, hB⟩ := box4 w (.bool b) (.slice A l c) (.bool b') (.slice A' l' c') (.bool false) (.slice none 0 0) (.bool false) (.slice none 0 0)
  have HI' := Lib.hid (h'.below hB)
  have HY := Lib.hid x2
  have HZ := Lib.hid x3
  clear h' x0 x1 x2 x3
  go_enter Tryd.func50, Tryd.ntmps50
  go_wp2_with fail
  rw [← hW]
  clear hW
  refine (sign_z HI'.out hl 0 rfl).mono ?_
  rintro e w1 ⟨rfl, b1⟩
  obtain ⟨⟨y1, y2⟩, ⟨y3, y4⟩, y5⟩ := (HY.out.below b1).look
  obtain ⟨⟨z1, z2⟩, ⟨z3, z4⟩, z5⟩ := (HZ.out.below b1).look
  go_wp2_with fail
  refine bodyPost_ret (by simp [results, Tryd.results50, go_sem, y1, y2, z1, z2]; try rfl) rfl ?_
  exact ⟨_, _, _, _, _, _, _, _, rfl, J.zero _, J.zero _, Nat.le_refl _, Nat.le_refl _, (((((below_trans hB b1).setCell (by simp only []; omega) _).setCell (by simp only []; omega) _).setCell (by simp only []; omega) _).setCell (by simp only []; omega) _)⟩

set_option maxRecDepth 100000 in
set_option maxHeartbeats 1000000 in
theorem divmod_f (n n' : Nat) (q r : Int) (h : V w A c l n) (h' : V w A' c' l' n') (hl : l + l' ≤ 400000) (h0 : Hid (n' ≠ 0)) (hq : Hid (sgn b' (n / n') = q)) (hr : Hid (((n % n' : Nat) : Int) = r)) :
    Calls Tryd.prog 50 #[.agg #[.bool false, .slice A l c], .agg #[.bool b', .slice A' l' c']] w (TellsZ2 w q r (l + 2) l') := by
  obtain ⟨W, hW, x0, x1, x2, x3, hB⟩ := box4 w (.bool false) (.slice A l c) (.bool b') (.slice A' l' c') (.bool false) (.slice none 0 0) (.bool false) (.slice none 0 0)
  have HV := Lib.hid (h.below hB)
  have HV' := Lib.hid (h'.below hB)
  have HI' : Hid (I W b' A' c' l' (sgn b' n')) := Lib.hid ⟨n', h'.below hB, rfl⟩
  have HX := Lib.hid x0
  have HX' := Lib.hid x1
  have HY := Lib.hid x2
  have HZ := Lib.hid x3
  obtain ⟨s, hs⟩ : ∃ s, (sgn b' n').sign = s := ⟨_, rfl⟩
  have p0 : (s == 0) = false := by rw [← hs, sgn_sign, if_neg h0.out]; split <;> rfl
  have HS := Lib.hid hs
  clear h h' x0 x1 x2 x3 hs
  go_enter Tryd.func50, Tryd.ntmps50
  go_wp2_with fail
  rw [← hW]
  clear hW
  refine (sign_z HI'.out (by omega) s HS.out).mono ?_
  rintro e w1 ⟨rfl, b1⟩
  obtain ⟨⟨a1, a2⟩, a3, a4⟩ := (HX.out.below b1).look
  obtain ⟨⟨a1', a2'⟩, a3', a4'⟩ := (HX'.out.below b1).look
  go_wp2_with fail
  refine (divmod_v (HV.out.below b1) (HV'.out.below b1) (by omega) h0.out).mono ?_
  rintro e w2 ⟨A2, c2, l2, A3, c3, l3, rfl, h2, h3, m2, m3, b2⟩
  have B2 := below_trans b1 b2
  obtain ⟨⟨a1, a2⟩, a3, a4⟩ := (HX.out.below B2).look
  obtain ⟨⟨a1', a2'⟩, a3', a4'⟩ := (HX'.out.below B2).look
  go_wp2_with fail
  with_reducible refine (signed_c b' (sgn b' (n / n')) h2 rfl).mono ?_
  rintro e w5 ⟨rfl, b5⟩
  go_wp2_with fail
  with_reducible refine (signed_c false ((n % n' : Nat) : Int) (h3.below b5) rfl).mono ?_
  rintro e w6 ⟨rfl, b6⟩
  have B6 := below_trans (below_trans B2 b5) b6
  have Hq : Hid (J w6 _ A2 c2 l2 (sgn b' (n / n'))) := Lib.hid ⟨by rw [sgn_abs]; exact h2.below (below_trans b5 b6), rfl⟩
  have Hr : Hid (J w6 _ A3 c3 l3 ((n % n' : Nat) : Int)) := Lib.hid ⟨h3.below (below_trans b5 b6), rfl⟩
  have y0 := HY.out.below B6
  have z0 := HZ.out.below B6
  have HY2 := Lib.hid y0
  have HZ2 := Lib.hid z0
  obtain ⟨⟨y1, y2⟩, ⟨y3, y4⟩, y5⟩ := y0.look
  obtain ⟨⟨z1, z2⟩, ⟨z3, z4⟩, z5⟩ := z0.look
  clear y0 z0
  go_wp2_with fail
  (try simp only [Exit.inBlock, Exit.then])
  refine bodyPost_ret (by simp [results, Tryd.results50, go_sem, y1, y2, z1, z2]; try rfl) rfl ?_
  refine ⟨_, _, _, _, _, _, _, _, rfl, ?_, ?_, (by omega), m3, (((((below_trans hB B6).setCell (by simp only []; omega) _).setCell (by simp only []; omega) _).setCell (by simp only []; omega) _).setCell (by simp only []; omega) _)⟩
  · rw [← hq.out]; exact (Hq.out.put HY2.out).put (HZ2.out.other (by omega))
  · rw [← hr.out]; exact (Hr.out.put HY2.out).put (HZ2.out.other (by omega))

set_option maxRecDepth 100000 in
set_option maxHeartbeats 1000000 in
theorem divmod_t0 (n n' : Nat) (q r : Int) (h : V w A c l n) (h' : V w A' c' l' n') (hl : l + l' ≤ 400000) (h0 : Hid (n' ≠ 0)) (hm : Hid (n % n' = 0)) (hq : Hid (sgn (!b') (n / n') = q)) (hr : Hid (((n % n' : Nat) : Int) = r)) :
    Calls Tryd.prog 50 #[.agg #[.bool true, .slice A l c], .agg #[.bool b', .slice A' l' c']] w (TellsZ2 w q r (l + 2) l') := by
  obtain ⟨W, hW, x0, x1, x2, x3, hB⟩ := box4 w (.bool true) (.slice A l c) (.bool b') (.slice A' l' c') (.bool false) (.slice none 0 0) (.bool false) (.slice none 0 0)
  have HV := Lib.hid (h.below hB)
  have HV' := Lib.hid (h'.below hB)
  have HI' : Hid (I W b' A' c' l' (sgn b' n')) := Lib.hid ⟨n', h'.below hB, rfl⟩
  have HX := Lib.hid x0
  have HX' := Lib.hid x1
  have HY := Lib.hid x2
  have HZ := Lib.hid x3
  obtain ⟨s, hs⟩ : ∃ s, (sgn b' n').sign = s := ⟨_, rfl⟩
  have p0 : (s == 0) = false := by rw [← hs, sgn_sign, if_neg h0.out]; split <;> rfl
  have HS := Lib.hid hs
  clear h h' x0 x1 x2 x3 hs
  go_enter Tryd.func50, Tryd.ntmps50
  go_wp2_with fail
  rw [← hW]
  clear hW
  refine (sign_z HI'.out (by omega) s HS.out).mono ?_
  rintro e w1 ⟨rfl, b1⟩
  obtain ⟨⟨a1, a2⟩, a3, a4⟩ := (HX.out.below b1).look
  obtain ⟨⟨a1', a2'⟩, a3', a4'⟩ := (HX'.out.below b1).look
  go_wp2_with fail
  refine (divmod_v (HV.out.below b1) (HV'.out.below b1) (by omega) h0.out).mono ?_
  rintro e w2 ⟨A2, c2, l2, A3, c3, l3, rfl, h2, h3, m2, m3, b2⟩
  have B2 := below_trans b1 b2
  obtain ⟨⟨a1, a2⟩, a3, a4⟩ := (HX.out.below B2).look
  obtain ⟨⟨a1', a2'⟩, a3', a4'⟩ := (HX'.out.below B2).look
  have p3 : decide (0 < l3) = false := by have := h3.2; rw [hm.out, nl_zero] at this; simp; omega
  go_wp2_with fail
  with_reducible refine (signed_c (!b') (sgn (!b') (n / n')) h2 rfl).mono ?_
  rintro e w5 ⟨rfl, b5⟩
  go_wp2_with fail
  with_reducible refine (signed_c false ((n % n' : Nat) : Int) (h3.below b5) rfl).mono ?_
  rintro e w6 ⟨rfl, b6⟩
  have B6 := below_trans (below_trans B2 b5) b6
  have Hq : Hid (J w6 _ A2 c2 l2 (sgn (!b') (n / n'))) := Lib.hid ⟨by rw [sgn_abs]; exact h2.below (below_trans b5 b6), rfl⟩
  have Hr : Hid (J w6 _ A3 c3 l3 ((n % n' : Nat) : Int)) := Lib.hid ⟨h3.below (below_trans b5 b6), rfl⟩
  have y0 := HY.out.below B6
  have z0 := HZ.out.below B6
  have HY2 := Lib.hid y0
  have HZ2 := Lib.hid z0
  obtain ⟨⟨y1, y2⟩, ⟨y3, y4⟩, y5⟩ := y0.look
  obtain ⟨⟨z1, z2⟩, ⟨z3, z4⟩, z5⟩ := z0.look
  clear y0 z0
  go_wp2_with fail
  (try simp only [Exit.inBlock, Exit.then])
  refine bodyPost_ret (by simp [results, Tryd.results50, go_sem, y1, y2, z1, z2]; try rfl) rfl ?_
  refine ⟨_, _, _, _, _, _, _, _, rfl, ?_, ?_, (by omega), m3, (((((below_trans hB B6).setCell (by simp only []; omega) _).setCell (by simp only []; omega) _).setCell (by simp only []; omega) _).setCell (by simp only []; omega) _)⟩
  · rw [← hq.out]; exact (Hq.out.put HY2.out).put (HZ2.out.other (by omega))
  · rw [← hr.out]; exact (Hr.out.put HY2.out).put (HZ2.out.other (by omega))

set_option maxRecDepth 100000 in
set_option maxHeartbeats 1000000 in
theorem divmod_t1 (n n' : Nat) (q r : Int) (h : V w A c l n) (h' : V w A' c' l' n') (hl : l + l' ≤ 400000) (h0 : Hid (n' ≠ 0)) (hm : Hid (n % n' ≠ 0)) (hq : Hid (sgn (!b') (n / n' + 1) = q)) (hr : Hid (((n' - n % n' : Nat) : Int) = r)) :
    Calls Tryd.prog 50 #[.agg #[.bool true, .slice A l c], .agg #[.bool b', .slice A' l' c']] w (TellsZ2 w q r (l + 2) l') := by
  obtain ⟨W, hW, x0, x1, x2, x3, hB⟩ := box4 w (.bool true) (.slice A l c) (.bool b') (.slice A' l' c') (.bool false) (.slice none 0 0) (.bool false) (.slice none 0 0)
  have HV := Lib.hid (h.below hB)
  have HV' := Lib.hid (h'.below hB)
  have HI' : Hid (I W b' A' c' l' (sgn b' n')) := Lib.hid ⟨n', h'.below hB, rfl⟩
  have HX := Lib.hid x0
  have HX' := Lib.hid x1
  have HY := Lib.hid x2
  have HZ := Lib.hid x3
  obtain ⟨s, hs⟩ : ∃ s, (sgn b' n').sign = s := ⟨_, rfl⟩
  have p0 : (s == 0) = false := by rw [← hs, sgn_sign, if_neg h0.out]; split <;> rfl
  have HS := Lib.hid hs
  clear h h' x0 x1 x2 x3 hs
  go_enter Tryd.func50, Tryd.ntmps50
  go_wp2_with fail
  rw [← hW]
  clear hW
  refine (sign_z HI'.out (by omega) s HS.out).mono ?_
  rintro e w1 ⟨rfl, b1⟩
  obtain ⟨⟨a1, a2⟩, a3, a4⟩ := (HX.out.below b1).look
  obtain ⟨⟨a1', a2'⟩, a3', a4'⟩ := (HX'.out.below b1).look
  go_wp2_with fail
  refine (divmod_v (HV.out.below b1) (HV'.out.below b1) (by omega) h0.out).mono ?_
  rintro e w2 ⟨A2, c2, l2, A3, c3, l3, rfl, h2, h3, m2, m3, b2⟩
  have B2 := below_trans b1 b2
  obtain ⟨⟨a1, a2⟩, a3, a4⟩ := (HX.out.below B2).look
  obtain ⟨⟨a1', a2'⟩, a3', a4'⟩ := (HX'.out.below B2).look
  have p3 : decide (0 < l3) = true := by have := h3.2; have hz := hm.out; rw [Ne, ← nl_eq_zero] at hz; simp; omega
  go_wp2_with fail
  have HL := Lib.hid (lit_v w2 [1] 1 1 (fun y hy => by simp at hy; rw [B_eq]; omega) rfl (by simp [val]))
  refine (add_v (h2.v.below (lit_below w2 _)) HL.out (by omega)).mono ?_
  rintro e w3 ⟨A4, c4, l4, rfl, h4, m4, b3⟩
  have B3 := below_trans B2 (below_trans (lit_below w2 _) b3)
  obtain ⟨⟨a1, a2⟩, a3, a4⟩ := (HX.out.below B3).look
  obtain ⟨⟨a1', a2'⟩, a3', a4'⟩ := (HX'.out.below B3).look
  go_wp2_with fail
  refine (sub_v (HV'.out.below B3) (h3.v.below (below_trans (lit_below w2 _) b3)) (by omega)).mono ?_
  rintro e w4 ⟨A5, c5, l5, rfl, h5, m5, b4⟩
  have B4 := below_trans B3 b4
  have h6 := h4.below b4
  obtain ⟨⟨a1, a2⟩, a3, a4⟩ := (HX.out.below B4).look
  obtain ⟨⟨a1', a2'⟩, a3', a4'⟩ := (HX'.out.below B4).look
  clear h2 h3 h4
  go_wp2_with fail
  with_reducible refine (signed_c (!b') (sgn (!b') (n / n' + 1)) h6 rfl).mono ?_
  rintro e w5 ⟨rfl, b5⟩
  go_wp2_with fail
  with_reducible refine (signed_c false ((n' - n % n' : Nat) : Int) (h5.below b5) rfl).mono ?_
  rintro e w6 ⟨rfl, b6⟩
  have B6 := below_trans (below_trans B4 b5) b6
  have Hq : Hid (J w6 _ A4 c4 l4 (sgn (!b') (n / n' + 1))) := Lib.hid ⟨by rw [sgn_abs]; exact h6.below (below_trans b5 b6), rfl⟩
  have Hr : Hid (J w6 _ A5 c5 l5 ((n' - n % n' : Nat) : Int)) := Lib.hid ⟨h5.below (below_trans b5 b6), rfl⟩
  have y0 := HY.out.below B6
  have z0 := HZ.out.below B6
  have HY2 := Lib.hid y0
  have HZ2 := Lib.hid z0
  obtain ⟨⟨y1, y2⟩, ⟨y3, y4⟩, y5⟩ := y0.look
  obtain ⟨⟨z1, z2⟩, ⟨z3, z4⟩, z5⟩ := z0.look
  clear y0 z0
  go_wp2_with fail
  (try simp only [Exit.inBlock, Exit.then])
  refine bodyPost_ret (by simp [results, Tryd.results50, go_sem, y1, y2, z1, z2]; try rfl) rfl ?_
  refine ⟨_, _, _, _, _, _, _, _, rfl, ?_, ?_, (by omega), m5, (((((below_trans hB B6).setCell (by simp only []; omega) _).setCell (by simp only []; omega) _).setCell (by simp only []; omega) _).setCell (by simp only []; omega) _)⟩
  · rw [← hq.out]; exact (Hq.out.put HY2.out).put (HZ2.out.other (by omega))
  · rw [← hr.out]; exact (Hr.out.put HY2.out).put (HZ2.out.other (by omega))

theorem divmod_z (h : I w b A c l z) (h' : I w b' A' c' l' z') (hl : l + l' ≤ 400000) (h0 : z' ≠ 0) :
    Calls Tryd.prog 50 #[.agg #[.bool b, .slice A l c], .agg #[.bool b', .slice A' l' c']] w (TellsZ2 w (z / z') (z % z') (l + 2) l') := by
  obtain ⟨n, h1, rfl⟩ := h
  obtain ⟨n', h1', rfl⟩ := h'
  have hn : n' ≠ 0 := by rintro rfl; apply h0; unfold sgn; cases b' <;> rfl
  have hd := sgn_divmod b b' n n' hn
  cases b
  · simp only [Bool.false_eq_true, false_and, if_false, Bool.false_bne] at hd
    exact divmod_f n n' _ _ h1 h1' hl (Lib.hid hn) (Lib.hid hd.1.symm) (Lib.hid hd.2.symm)
  · by_cases hm : n % n' = 0
    · simp only [hm, ne_eq, not_true, and_false, if_false, Bool.true_bne] at hd
      exact divmod_t0 n n' _ _ h1 h1' hl (Lib.hid hn) (Lib.hid hm) (Lib.hid hd.1.symm) (Lib.hid (by rw [hm]; exact hd.2.symm))
    · simp only [hm, ne_eq, not_false_eq_true, and_true, if_true, Bool.true_bne] at hd
      exact divmod_t1 n n' _ _ h1 h1' hl (Lib.hid hn) (Lib.hid hm) (Lib.hid hd.1.symm) (Lib.hid hd.2.symm)
end
end Go.Proofs.YtjlfcnkndndgaaaDoor
