/-
  Whole numbers: DivMod. Written by wip/gen/w10.py.
  The looks of the laws of layer 2: is, by; the chapter's examples.
  The chapter's examples of layer 2, which every statement of the layer asks. Written by wip/gen/w12.py.
  Struct variables in memory, known whole; what keeps all digits of 64 bits keeps every number. Written by wip/gen/box.py.
-/
import Derived.Test.YtionhpangenhnaaDoorZWa
namespace Go.Proofs.YtionhpangenhnaaDoor
open Go.RowKit Tw

/-- Two structs and two places of results. -/
theorem box4 (w : World) (v0 v1 u0 u1 r0 r1 s0 s1 : Value) : ∃ W, W = (((w.alloc (.cells #[v0, v1] 25)).alloc (.cells #[u0, u1] 25)).alloc (.cells #[r0, r1] 25)).alloc (.cells #[s0, s1] 25) ∧ IBox W w.heap.size v0 v1 ∧ IBox W (w.heap.size + 1) u0 u1 ∧ IBox W (w.heap.size + 1 + 1) r0 r1 ∧ IBox W (w.heap.size + 1 + 1 + 1) s0 s1 ∧ Below w.heap.size w W := by
  obtain ⟨W, hW, x0, x1, x2, hB⟩ := box2 w v0 v1 u0 u1 r0 r1
  have hs : W.heap.size = w.heap.size + 1 + 1 + 1 := by rw [hW]; simp
  have := IBox.new W s0 s1
  rw [hs] at this
  refine ⟨_, rfl, ?_, ?_, ?_, ?_, ?_⟩
  · rw [← hW]; exact x0.below (lit_below _ _)
  · rw [← hW]; exact x1.below (lit_below _ _)
  · rw [← hW]; exact x2.below (lit_below _ _)
  · rw [← hW]; exact this
  · rw [← hW]; exact below_trans hB (lit_below _ _)
/-- Two whole numbers told. -/
def TellsZ2 (w : World) (q r : Int) (m m' : Nat) (e : Ending) (w' : World) : Prop :=
  ∃ b A c l b' A' c' l', e = .returned (.tuple #[.agg #[.bool b, .slice A l c], .agg #[.bool b', .slice A' l' c']]) ∧ J w' b A c l q ∧ J w' b' A' c' l' r ∧ l ≤ m ∧ l' ≤ m' ∧ Below w.heap.size w w'
theorem J.put {w : World} {s s' : Bool} {A B' : Option Addr} {c l b m k : Nat} {z : Int} {u v : Value} (h : J w s A c l z) (x : IBox w b (.bool s') (.slice B' m k)) :
    J ((w.setCell ⟨b, 0, none⟩ u).setCell ⟨b, 1, none⟩ v) s A c l z := h.box x.look.1.1 x.look.1.2 (fun _ e => by cases e)
theorem sgn_divmod (b b' : Bool) (n n' : Nat) (h : n' ≠ 0) :
    sgn b n / sgn b' n' = sgn (b != b') (if b = true ∧ n % n' ≠ 0 then n / n' + 1 else n / n') ∧ sgn b n % sgn b' n' = ((if b = true ∧ n % n' ≠ 0 then n' - n % n' else n % n' : Nat) : Int) := by
  have hp : (0 : Int) < (n' : Int) := by omega
  have key : sgn b n / (n' : Int) = sgn b (if b = true ∧ n % n' ≠ 0 then n / n' + 1 else n / n') ∧ sgn b n % (n' : Int) = ((if b = true ∧ n % n' ≠ 0 then n' - n % n' else n % n' : Nat) : Int) := by
    have hd : (n : Int) = (n' : Int) * ((n / n' : Nat) : Int) + ((n % n' : Nat) : Int) := by
      have := (Nat.div_add_mod n n').symm
      exact_mod_cast this
    have hm := Nat.mod_lt n (Nat.pos_of_ne_zero h)
    rw [Int.ediv_emod_unique hp]
    generalize n / n' = q at *
    generalize n % n' = r at *
    cases b
    · simp [sgn]; omega
    · by_cases hr : r = 0
      · subst hr
        simp [sgn]
        rw [hd]
        refine ⟨by rw [Int.mul_neg]; simp, by omega⟩
      · have hc : ((n' - r : Nat) : Int) = (n' : Int) - r := by omega
        simp only [ne_eq, hr, not_false_eq_true, and_self, if_true, sgn]
        rw [hc, hd]
        refine ⟨?_, by omega, by omega⟩
        rw [Int.natCast_add, Int.mul_neg, Int.mul_add]
        simp only [Int.natCast_one, Int.mul_one]
        omega
  cases b'
  · simpa [sgn] using key
  · have e : sgn true n' = -(n' : Int) := rfl
    rw [e, Int.ediv_neg, Int.emod_neg, key.1, key.2]
    refine ⟨?_, rfl⟩
    generalize (if b = true ∧ n % n' ≠ 0 then n / n' + 1 else n / n') = q
    cases b <;> simp [sgn]
section
variable {w : World} {A A' : Option Addr} {c c' l l' : Nat} {b b' : Bool} {z z' : Int}
theorem J.zero (w : World) : J w false none 0 0 0 := ⟨⟨by rw [show (0 : Int).natAbs = 0 from rfl, limbs_zero]; exact Nums.nil _ _ _, rfl⟩, rfl⟩
set_option maxRecDepth 100000 in
set_option maxHeartbeats 4000000 in
theorem divmod_z0 (h' : I w b' A' c' l' 0) (hl : l' ≤ 800000) :
    Calls Tryd.prog 98 #[.agg #[.bool b, .slice A l c], .agg #[.bool b', .slice A' l' c']] w (TellsZ2 w 0 0 0 0) := by
  obtain ⟨W, hW, x0, x1, x2, x3, hB⟩ := box4 w (.bool b) (.slice A l c) (.bool b') (.slice A' l' c') (.bool false) (.slice none 0 0) (.bool false) (.slice none 0 0)
  have HI' := Lib.hid (h'.below hB)
  have HY := Lib.hid x2
  have HZ := Lib.hid x3
  clear h' x0 x1 x2 x3
  go_enter Tryd.func98, Tryd.ntmps98
  go_wp2_with fail
  rw [← hW]
  clear hW
  refine (sign_z HI'.out hl 0 rfl).mono ?_
  rintro e w1 ⟨rfl, b1⟩
  obtain ⟨⟨y1, y2⟩, ⟨y3, y4⟩, y5⟩ := (HY.out.below b1).look
  obtain ⟨⟨z1, z2⟩, ⟨z3, z4⟩, z5⟩ := (HZ.out.below b1).look
  go_wp2_with fail
  refine bodyPost_ret (by simp [results, Tryd.results98, go_sem, y1, y2, z1, z2]; try rfl) rfl ?_
  exact ⟨_, _, _, _, _, _, _, _, rfl, J.zero _, J.zero _, Nat.le_refl _, Nat.le_refl _, (((((below_trans hB b1).setCell (by simp only []; omega) _).setCell (by simp only []; omega) _).setCell (by simp only []; omega) _).setCell (by simp only []; omega) _)⟩

set_option maxRecDepth 100000 in
set_option maxHeartbeats 4000000 in
theorem divmod_f (n n' : Nat) (q r : Int) (h : V w A c l n) (h' : V w A' c' l' n') (hl : l + l' ≤ 400000) (h0 : Hid (n' ≠ 0)) (hq : Hid (sgn b' (n / n') = q)) (hr : Hid (((n % n' : Nat) : Int) = r)) :
    Calls Tryd.prog 98 #[.agg #[.bool false, .slice A l c], .agg #[.bool b', .slice A' l' c']] w (TellsZ2 w q r (l + 2) l') := by
  obtain ⟨W, hW, x0, x1, x2, x3, hB⟩ := box4 w (.bool false) (.slice A l c) (.bool b') (.slice A' l' c') (.bool false) (.slice none 0 0) (.bool false) (.slice none 0 0)
  have HV := Lib.hid (h.below hB)
  have HV' := Lib.hid (h'.below hB)
  have HI' : Hid (I W b' A' c' l' (sgn b' n')) := Lib.hid ⟨n', h'.below hB, rfl⟩
  have HX := Lib.hid x0
  have HX' := Lib.hid x1
  have HY := Lib.hid x2
  have HZ := Lib.hid x3
  obtain ⟨s, hs⟩ : ∃ s, (sgn b' n').sign = s := ⟨_, rfl⟩
  have p0 : (s == 0) = false := by rw [← hs, sgn_sign, if_neg h0.out]; split <;> rfl
  have HS := Lib.hid hs
  clear h h' x0 x1 x2 x3 hs
  go_enter Tryd.func98, Tryd.ntmps98
  go_wp2_with fail
  rw [← hW]
  clear hW
  refine (sign_z HI'.out (by omega) s HS.out).mono ?_
  rintro e w1 ⟨rfl, b1⟩
  obtain ⟨⟨a1, a2⟩, a3, a4⟩ := (HX.out.below b1).look
  obtain ⟨⟨a1', a2'⟩, a3', a4'⟩ := (HX'.out.below b1).look
  go_wp2_with fail
  refine (divmod_v (HV.out.below b1) (HV'.out.below b1) (by omega) h0.out).mono ?_
  rintro e w2 ⟨A2, c2, l2, A3, c3, l3, rfl, h2, h3, m2, m3, b2⟩
  have B2 := below_trans b1 b2
  obtain ⟨⟨a1, a2⟩, a3, a4⟩ := (HX.out.below B2).look
  obtain ⟨⟨a1', a2'⟩, a3', a4'⟩ := (HX'.out.below B2).look
  go_wp2_with fail
  with_reducible refine (signed_c b' (sgn b' (n / n')) h2 rfl).mono ?_
  rintro e w5 ⟨rfl, b5⟩
  go_wp2_with fail
  with_reducible refine (signed_c false ((n % n' : Nat) : Int) (h3.below b5) rfl).mono ?_
  rintro e w6 ⟨rfl, b6⟩
  have B6 := below_trans (below_trans B2 b5) b6
  have Hq : Hid (J w6 _ A2 c2 l2 (sgn b' (n / n'))) := Lib.hid ⟨by rw [sgn_abs]; exact h2.below (below_trans b5 b6), rfl⟩
  have Hr : Hid (J w6 _ A3 c3 l3 ((n % n' : Nat) : Int)) := Lib.hid ⟨h3.below (below_trans b5 b6), rfl⟩
  have y0 := HY.out.below B6
  have z0 := HZ.out.below B6
  have HY2 := Lib.hid y0
  have HZ2 := Lib.hid z0
  obtain ⟨⟨y1, y2⟩, ⟨y3, y4⟩, y5⟩ := y0.look
  obtain ⟨⟨z1, z2⟩, ⟨z3, z4⟩, z5⟩ := z0.look
  clear y0 z0
  go_wp2_with fail
  (try simp only [Exit.inBlock, Exit.then])
  refine bodyPost_ret (by simp [results, Tryd.results98, go_sem, y1, y2, z1, z2]; try rfl) rfl ?_
  refine ⟨_, _, _, _, _, _, _, _, rfl, ?_, ?_, (by omega), m3, (((((below_trans hB B6).setCell (by simp only []; omega) _).setCell (by simp only []; omega) _).setCell (by simp only []; omega) _).setCell (by simp only []; omega) _)⟩
  · rw [← hq.out]; exact (Hq.out.put HY2.out).put (HZ2.out.other (by omega))
  · rw [← hr.out]; exact (Hr.out.put HY2.out).put (HZ2.out.other (by omega))

set_option maxRecDepth 100000 in
set_option maxHeartbeats 4000000 in
theorem divmod_t0 (n n' : Nat) (q r : Int) (h : V w A c l n) (h' : V w A' c' l' n') (hl : l + l' ≤ 400000) (h0 : Hid (n' ≠ 0)) (hm : Hid (n % n' = 0)) (hq : Hid (sgn (!b') (n / n') = q)) (hr : Hid (((n % n' : Nat) : Int) = r)) :
    Calls Tryd.prog 98 #[.agg #[.bool true, .slice A l c], .agg #[.bool b', .slice A' l' c']] w (TellsZ2 w q r (l + 2) l') := by
  obtain ⟨W, hW, x0, x1, x2, x3, hB⟩ := box4 w (.bool true) (.slice A l c) (.bool b') (.slice A' l' c') (.bool false) (.slice none 0 0) (.bool false) (.slice none 0 0)
  have HV := Lib.hid (h.below hB)
  have HV' := Lib.hid (h'.below hB)
  have HI' : Hid (I W b' A' c' l' (sgn b' n')) := Lib.hid ⟨n', h'.below hB, rfl⟩
  have HX := Lib.hid x0
  have HX' := Lib.hid x1
  have HY := Lib.hid x2
  have HZ := Lib.hid x3
  obtain ⟨s, hs⟩ : ∃ s, (sgn b' n').sign = s := ⟨_, rfl⟩
  have p0 : (s == 0) = false := by rw [← hs, sgn_sign, if_neg h0.out]; split <;> rfl
  have HS := Lib.hid hs
  clear h h' x0 x1 x2 x3 hs
  go_enter Tryd.func98, Tryd.ntmps98
  go_wp2_with fail
  rw [← hW]
  clear hW
  refine (sign_z HI'.out (by omega) s HS.out).mono ?_
  rintro e w1 ⟨rfl, b1⟩
  obtain ⟨⟨a1, a2⟩, a3, a4⟩ := (HX.out.below b1).look
  obtain ⟨⟨a1', a2'⟩, a3', a4'⟩ := (HX'.out.below b1).look
  go_wp2_with fail
  refine (divmod_v (HV.out.below b1) (HV'.out.below b1) (by omega) h0.out).mono ?_
  rintro e w2 ⟨A2, c2, l2, A3, c3, l3, rfl, h2, h3, m2, m3, b2⟩
  have B2 := below_trans b1 b2
  obtain ⟨⟨a1, a2⟩, a3, a4⟩ := (HX.out.below B2).look
  obtain ⟨⟨a1', a2'⟩, a3', a4'⟩ := (HX'.out.below B2).look
  have p3 : decide (0 < l3) = false := by have := h3.2; rw [hm.out, nl_zero] at this; simp; omega
  go_wp2_with fail
  with_reducible refine (signed_c (!b') (sgn (!b') (n / n')) h2 rfl).mono ?_
  rintro e w5 ⟨rfl, b5⟩
  go_wp2_with fail
  with_reducible refine (signed_c false ((n % n' : Nat) : Int) (h3.below b5) rfl).mono ?_
  rintro e w6 ⟨rfl, b6⟩
  have B6 := below_trans (below_trans B2 b5) b6
  have Hq : Hid (J w6 _ A2 c2 l2 (sgn (!b') (n / n'))) := Lib.hid ⟨by rw [sgn_abs]; exact h2.below (below_trans b5 b6), rfl⟩
  have Hr : Hid (J w6 _ A3 c3 l3 ((n % n' : Nat) : Int)) := Lib.hid ⟨h3.below (below_trans b5 b6), rfl⟩
  have y0 := HY.out.below B6
  have z0 := HZ.out.below B6
  have HY2 := Lib.hid y0
  have HZ2 := Lib.hid z0
  obtain ⟨⟨y1, y2⟩, ⟨y3, y4⟩, y5⟩ := y0.look
  obtain ⟨⟨z1, z2⟩, ⟨z3, z4⟩, z5⟩ := z0.look
  clear y0 z0
  go_wp2_with fail
  (try simp only [Exit.inBlock, Exit.then])
  refine bodyPost_ret (by simp [results, Tryd.results98, go_sem, y1, y2, z1, z2]; try rfl) rfl ?_
  refine ⟨_, _, _, _, _, _, _, _, rfl, ?_, ?_, (by omega), m3, (((((below_trans hB B6).setCell (by simp only []; omega) _).setCell (by simp only []; omega) _).setCell (by simp only []; omega) _).setCell (by simp only []; omega) _)⟩
  · rw [← hq.out]; exact (Hq.out.put HY2.out).put (HZ2.out.other (by omega))
  · rw [← hr.out]; exact (Hr.out.put HY2.out).put (HZ2.out.other (by omega))

set_option maxRecDepth 100000 in
set_option maxHeartbeats 4000000 in
theorem divmod_t1 (n n' : Nat) (q r : Int) (h : V w A c l n) (h' : V w A' c' l' n') (hl : l + l' ≤ 400000) (h0 : Hid (n' ≠ 0)) (hm : Hid (n % n' ≠ 0)) (hq : Hid (sgn (!b') (n / n' + 1) = q)) (hr : Hid (((n' - n % n' : Nat) : Int) = r)) :
    Calls Tryd.prog 98 #[.agg #[.bool true, .slice A l c], .agg #[.bool b', .slice A' l' c']] w (TellsZ2 w q r (l + 2) l') := by
  obtain ⟨W, hW, x0, x1, x2, x3, hB⟩ := box4 w (.bool true) (.slice A l c) (.bool b') (.slice A' l' c') (.bool false) (.slice none 0 0) (.bool false) (.slice none 0 0)
  have HV := Lib.hid (h.below hB)
  have HV' := Lib.hid (h'.below hB)
  have HI' : Hid (I W b' A' c' l' (sgn b' n')) := Lib.hid ⟨n', h'.below hB, rfl⟩
  have HX := Lib.hid x0
  have HX' := Lib.hid x1
  have HY := Lib.hid x2
  have HZ := Lib.hid x3
  obtain ⟨s, hs⟩ : ∃ s, (sgn b' n').sign = s := ⟨_, rfl⟩
  have p0 : (s == 0) = false := by rw [← hs, sgn_sign, if_neg h0.out]; split <;> rfl
  have HS := Lib.hid hs
  clear h h' x0 x1 x2 x3 hs
  go_enter Tryd.func98, Tryd.ntmps98
  go_wp2_with fail
  rw [← hW]
  clear hW
  refine (sign_z HI'.out (by omega) s HS.out).mono ?_
  rintro e w1 ⟨rfl, b1⟩
  obtain ⟨⟨a1, a2⟩, a3, a4⟩ := (HX.out.below b1).look
  obtain ⟨⟨a1', a2'⟩, a3', a4'⟩ := (HX'.out.below b1).look
  go_wp2_with fail
  refine (divmod_v (HV.out.below b1) (HV'.out.below b1) (by omega) h0.out).mono ?_
  rintro e w2 ⟨A2, c2, l2, A3, c3, l3, rfl, h2, h3, m2, m3, b2⟩
  have B2 := below_trans b1 b2
  obtain ⟨⟨a1, a2⟩, a3, a4⟩ := (HX.out.below B2).look
  obtain ⟨⟨a1', a2'⟩, a3', a4'⟩ := (HX'.out.below B2).look
  have p3 : decide (0 < l3) = true := by have := h3.2; have hz := hm.out; rw [Ne, ← nl_eq_zero] at hz; simp; omega
  go_wp2_with fail
  have HL := Lib.hid (lit_v w2 [1] 1 1 (fun y hy => by simp at hy; rw [B_eq]; omega) rfl (by simp [val]))
  refine (add_v (h2.v.below (lit_below w2 _)) HL.out (by omega)).mono ?_
  rintro e w3 ⟨A4, c4, l4, rfl, h4, m4, b3⟩
  have B3 := below_trans B2 (below_trans (lit_below w2 _) b3)
  obtain ⟨⟨a1, a2⟩, a3, a4⟩ := (HX.out.below B3).look
  obtain ⟨⟨a1', a2'⟩, a3', a4'⟩ := (HX'.out.below B3).look
  go_wp2_with fail
  refine (sub_v (HV'.out.below B3) (h3.v.below (below_trans (lit_below w2 _) b3)) (by omega)).mono ?_
  rintro e w4 ⟨A5, c5, l5, rfl, h5, m5, b4⟩
  have B4 := below_trans B3 b4
  have h6 := h4.below b4
  obtain ⟨⟨a1, a2⟩, a3, a4⟩ := (HX.out.below B4).look
  obtain ⟨⟨a1', a2'⟩, a3', a4'⟩ := (HX'.out.below B4).look
  clear h2 h3 h4
  go_wp2_with fail
  with_reducible refine (signed_c (!b') (sgn (!b') (n / n' + 1)) h6 rfl).mono ?_
  rintro e w5 ⟨rfl, b5⟩
  go_wp2_with fail
  with_reducible refine (signed_c false ((n' - n % n' : Nat) : Int) (h5.below b5) rfl).mono ?_
  rintro e w6 ⟨rfl, b6⟩
  have B6 := below_trans (below_trans B4 b5) b6
  have Hq : Hid (J w6 _ A4 c4 l4 (sgn (!b') (n / n' + 1))) := Lib.hid ⟨by rw [sgn_abs]; exact h6.below (below_trans b5 b6), rfl⟩
  have Hr : Hid (J w6 _ A5 c5 l5 ((n' - n % n' : Nat) : Int)) := Lib.hid ⟨h5.below (below_trans b5 b6), rfl⟩
  have y0 := HY.out.below B6
  have z0 := HZ.out.below B6
  have HY2 := Lib.hid y0
  have HZ2 := Lib.hid z0
  obtain ⟨⟨y1, y2⟩, ⟨y3, y4⟩, y5⟩ := y0.look
  obtain ⟨⟨z1, z2⟩, ⟨z3, z4⟩, z5⟩ := z0.look
  clear y0 z0
  go_wp2_with fail
  (try simp only [Exit.inBlock, Exit.then])
  refine bodyPost_ret (by simp [results, Tryd.results98, go_sem, y1, y2, z1, z2]; try rfl) rfl ?_
  refine ⟨_, _, _, _, _, _, _, _, rfl, ?_, ?_, (by omega), m5, (((((below_trans hB B6).setCell (by simp only []; omega) _).setCell (by simp only []; omega) _).setCell (by simp only []; omega) _).setCell (by simp only []; omega) _)⟩
  · rw [← hq.out]; exact (Hq.out.put HY2.out).put (HZ2.out.other (by omega))
  · rw [← hr.out]; exact (Hr.out.put HY2.out).put (HZ2.out.other (by omega))

theorem divmod_z (h : I w b A c l z) (h' : I w b' A' c' l' z') (hl : l + l' ≤ 400000) (h0 : z' ≠ 0) :
    Calls Tryd.prog 98 #[.agg #[.bool b, .slice A l c], .agg #[.bool b', .slice A' l' c']] w (TellsZ2 w (z / z') (z % z') (l + 2) l') := by
  obtain ⟨n, h1, rfl⟩ := h
  obtain ⟨n', h1', rfl⟩ := h'
  have hn : n' ≠ 0 := by rintro rfl; apply h0; unfold sgn; cases b' <;> rfl
  have hd := sgn_divmod b b' n n' hn
  cases b
  · simp only [Bool.false_eq_true, false_and, if_false, Bool.false_bne] at hd
    exact divmod_f n n' _ _ h1 h1' hl (Lib.hid hn) (Lib.hid hd.1.symm) (Lib.hid hd.2.symm)
  · by_cases hm : n % n' = 0
    · simp only [hm, ne_eq, not_true, and_false, if_false, Bool.true_bne] at hd
      exact divmod_t0 n n' _ _ h1 h1' hl (Lib.hid hn) (Lib.hid hm) (Lib.hid hd.1.symm) (Lib.hid (by rw [hm]; exact hd.2.symm))
    · simp only [hm, ne_eq, not_false_eq_true, and_true, if_true, Bool.true_bne] at hd
      exact divmod_t1 n n' _ _ h1 h1' hl (Lib.hid hn) (Lib.hid hm) (Lib.hid hd.1.symm) (Lib.hid hd.2.symm)
end
end Go.Proofs.YtionhpangenhnaaDoor

namespace Go.Proofs.YtionhpangenhnaaDoor
open Go.RowKit Tw

theorem small_bd {z : Int} (h : Hid (isSmall z = true)) : Hid (-9223372036854775808 ≤ z ∧ z ≤ 9223372036854775807) := Lib.hid (of_decide_eq_true h.out)
section
variable {w : World} {A A' : Option Addr} {c c' l l' : Nat} {b b' : Bool} {z z' : Int}
end
end Go.Proofs.YtionhpangenhnaaDoor

namespace Go.Proofs.YtionhpangenhnaaDoor
open Go.RowKit Tw

end Go.Proofs.YtionhpangenhnaaDoor

namespace Go.Proofs.YtionhpangenhnaaDoor
open Go.RowKit Tw

/-- Block b is just these cells; none is frozen. -/
def Bx (w : World) (b : Nat) (cs : Array Value) (t : TypeId) : Prop := w.heap[b]? = some (.cells cs t (0, 0))
section
variable {w w' : World} {b : Nat} {cs : Array Value} {t : TypeId}
theorem Bx.lt (h : Bx w b cs t) : b < w.heap.size := (Array.getElem?_eq_some_iff.1 h).1
theorem Bx.below (h : Bx w b cs t) (hb : Below w.heap.size w w') : Bx w' b cs t := (hb.block b h.lt).trans h
theorem Bx.drew (h : Bx w b cs t) : Bx w.drew b cs t := h
theorem Bx.new (w : World) (cs : Array Value) (t : TypeId) : Bx (w.alloc (.cells cs t)) w.heap.size cs t := heap_alloc_new _ _
theorem Bx.cell (h : Bx w b cs t) (i : Nat) (v : Value) (hi : cs[i]? = some v) : w.cell? ⟨b, i, none⟩ = some v := by rw [cell_of_row w b i _ _ _ h]; exact hi
theorem Bx.frozen (h : Bx w b cs t) (i : Nat) : w.frozen? ⟨b, i, none⟩ = false := frozen_of_row w b i _ _ h
theorem Bx.set (h : Bx w b cs t) (i : Nat) (v : Value) : Bx (w.setCell ⟨b, i, none⟩ v) b (cs.setIfInBounds i v) t := heap_setCell_same w b i _ _ v h
theorem Bx.far (h : Bx w b cs t) {p : Addr} (hp : b ≠ p.block) (u : Value) : Bx (w.setCell p u) b cs t := (heap_setCell_other w p b u hp).trans h
end
theorem boxes1 (w : World) (c0 : Array Value) (t0 : TypeId) : ∃ W, W = w.alloc (.cells c0 t0) ∧ Bx W w.heap.size c0 t0 ∧ Below w.heap.size w W := by
  exact ⟨_, rfl, Bx.new _ _ _, lit_below _ _⟩
theorem boxes2 (w : World) (c0 : Array Value) (t0 : TypeId) (c1 : Array Value) (t1 : TypeId) : ∃ W, W = (w.alloc (.cells c0 t0)).alloc (.cells c1 t1) ∧ Bx W w.heap.size c0 t0 ∧ Bx W (w.heap.size + 1) c1 t1 ∧ Below w.heap.size w W := by
  obtain ⟨W, hW, x0, hB⟩ := boxes1 w c0 t0
  have hs : W.heap.size = w.heap.size + 1 := by rw [hW]; simp
  have hn := Bx.new W c1 t1
  rw [hs] at hn
  subst hW
  exact ⟨_, rfl, x0.below (lit_below _ _), hn, below_trans hB (lit_below _ _)⟩
theorem boxes3 (w : World) (c0 : Array Value) (t0 : TypeId) (c1 : Array Value) (t1 : TypeId) (c2 : Array Value) (t2 : TypeId) : ∃ W, W = ((w.alloc (.cells c0 t0)).alloc (.cells c1 t1)).alloc (.cells c2 t2) ∧ Bx W w.heap.size c0 t0 ∧ Bx W (w.heap.size + 1) c1 t1 ∧ Bx W (w.heap.size + 1 + 1) c2 t2 ∧ Below w.heap.size w W := by
  obtain ⟨W, hW, x0, x1, hB⟩ := boxes2 w c0 t0 c1 t1
  have hs : W.heap.size = w.heap.size + 1 + 1 := by rw [hW]; simp
  have hn := Bx.new W c2 t2
  rw [hs] at hn
  subst hW
  exact ⟨_, rfl, x0.below (lit_below _ _), x1.below (lit_below _ _), hn, below_trans hB (lit_below _ _)⟩
theorem boxes4 (w : World) (c0 : Array Value) (t0 : TypeId) (c1 : Array Value) (t1 : TypeId) (c2 : Array Value) (t2 : TypeId) (c3 : Array Value) (t3 : TypeId) : ∃ W, W = (((w.alloc (.cells c0 t0)).alloc (.cells c1 t1)).alloc (.cells c2 t2)).alloc (.cells c3 t3) ∧ Bx W w.heap.size c0 t0 ∧ Bx W (w.heap.size + 1) c1 t1 ∧ Bx W (w.heap.size + 1 + 1) c2 t2 ∧ Bx W (w.heap.size + 1 + 1 + 1) c3 t3 ∧ Below w.heap.size w W := by
  obtain ⟨W, hW, x0, x1, x2, hB⟩ := boxes3 w c0 t0 c1 t1 c2 t2
  have hs : W.heap.size = w.heap.size + 1 + 1 + 1 := by rw [hW]; simp
  have hn := Bx.new W c3 t3
  rw [hs] at hn
  subst hW
  exact ⟨_, rfl, x0.below (lit_below _ _), x1.below (lit_below _ _), x2.below (lit_below _ _), hn, below_trans hB (lit_below _ _)⟩
theorem boxes5 (w : World) (c0 : Array Value) (t0 : TypeId) (c1 : Array Value) (t1 : TypeId) (c2 : Array Value) (t2 : TypeId) (c3 : Array Value) (t3 : TypeId) (c4 : Array Value) (t4 : TypeId) : ∃ W, W = ((((w.alloc (.cells c0 t0)).alloc (.cells c1 t1)).alloc (.cells c2 t2)).alloc (.cells c3 t3)).alloc (.cells c4 t4) ∧ Bx W w.heap.size c0 t0 ∧ Bx W (w.heap.size + 1) c1 t1 ∧ Bx W (w.heap.size + 1 + 1) c2 t2 ∧ Bx W (w.heap.size + 1 + 1 + 1) c3 t3 ∧ Bx W (w.heap.size + 1 + 1 + 1 + 1) c4 t4 ∧ Below w.heap.size w W := by
  obtain ⟨W, hW, x0, x1, x2, x3, hB⟩ := boxes4 w c0 t0 c1 t1 c2 t2 c3 t3
  have hs : W.heap.size = w.heap.size + 1 + 1 + 1 + 1 := by rw [hW]; simp
  have hn := Bx.new W c4 t4
  rw [hs] at hn
  subst hW
  exact ⟨_, rfl, x0.below (lit_below _ _), x1.below (lit_below _ _), x2.below (lit_below _ _), x3.below (lit_below _ _), hn, below_trans hB (lit_below _ _)⟩
theorem boxes6 (w : World) (c0 : Array Value) (t0 : TypeId) (c1 : Array Value) (t1 : TypeId) (c2 : Array Value) (t2 : TypeId) (c3 : Array Value) (t3 : TypeId) (c4 : Array Value) (t4 : TypeId) (c5 : Array Value) (t5 : TypeId) : ∃ W, W = (((((w.alloc (.cells c0 t0)).alloc (.cells c1 t1)).alloc (.cells c2 t2)).alloc (.cells c3 t3)).alloc (.cells c4 t4)).alloc (.cells c5 t5) ∧ Bx W w.heap.size c0 t0 ∧ Bx W (w.heap.size + 1) c1 t1 ∧ Bx W (w.heap.size + 1 + 1) c2 t2 ∧ Bx W (w.heap.size + 1 + 1 + 1) c3 t3 ∧ Bx W (w.heap.size + 1 + 1 + 1 + 1) c4 t4 ∧ Bx W (w.heap.size + 1 + 1 + 1 + 1 + 1) c5 t5 ∧ Below w.heap.size w W := by
  obtain ⟨W, hW, x0, x1, x2, x3, x4, hB⟩ := boxes5 w c0 t0 c1 t1 c2 t2 c3 t3 c4 t4
  have hs : W.heap.size = w.heap.size + 1 + 1 + 1 + 1 + 1 := by rw [hW]; simp
  have hn := Bx.new W c5 t5
  rw [hs] at hn
  subst hW
  exact ⟨_, rfl, x0.below (lit_below _ _), x1.below (lit_below _ _), x2.below (lit_below _ _), x3.below (lit_below _ _), x4.below (lit_below _ _), hn, below_trans hB (lit_below _ _)⟩
theorem boxes7 (w : World) (c0 : Array Value) (t0 : TypeId) (c1 : Array Value) (t1 : TypeId) (c2 : Array Value) (t2 : TypeId) (c3 : Array Value) (t3 : TypeId) (c4 : Array Value) (t4 : TypeId) (c5 : Array Value) (t5 : TypeId) (c6 : Array Value) (t6 : TypeId) : ∃ W, W = ((((((w.alloc (.cells c0 t0)).alloc (.cells c1 t1)).alloc (.cells c2 t2)).alloc (.cells c3 t3)).alloc (.cells c4 t4)).alloc (.cells c5 t5)).alloc (.cells c6 t6) ∧ Bx W w.heap.size c0 t0 ∧ Bx W (w.heap.size + 1) c1 t1 ∧ Bx W (w.heap.size + 1 + 1) c2 t2 ∧ Bx W (w.heap.size + 1 + 1 + 1) c3 t3 ∧ Bx W (w.heap.size + 1 + 1 + 1 + 1) c4 t4 ∧ Bx W (w.heap.size + 1 + 1 + 1 + 1 + 1) c5 t5 ∧ Bx W (w.heap.size + 1 + 1 + 1 + 1 + 1 + 1) c6 t6 ∧ Below w.heap.size w W := by
  obtain ⟨W, hW, x0, x1, x2, x3, x4, x5, hB⟩ := boxes6 w c0 t0 c1 t1 c2 t2 c3 t3 c4 t4 c5 t5
  have hs : W.heap.size = w.heap.size + 1 + 1 + 1 + 1 + 1 + 1 := by rw [hW]; simp
  have hn := Bx.new W c6 t6
  rw [hs] at hn
  subst hW
  exact ⟨_, rfl, x0.below (lit_below _ _), x1.below (lit_below _ _), x2.below (lit_below _ _), x3.below (lit_below _ _), x4.below (lit_below _ _), x5.below (lit_below _ _), hn, below_trans hB (lit_below _ _)⟩
theorem boxes8 (w : World) (c0 : Array Value) (t0 : TypeId) (c1 : Array Value) (t1 : TypeId) (c2 : Array Value) (t2 : TypeId) (c3 : Array Value) (t3 : TypeId) (c4 : Array Value) (t4 : TypeId) (c5 : Array Value) (t5 : TypeId) (c6 : Array Value) (t6 : TypeId) (c7 : Array Value) (t7 : TypeId) : ∃ W, W = (((((((w.alloc (.cells c0 t0)).alloc (.cells c1 t1)).alloc (.cells c2 t2)).alloc (.cells c3 t3)).alloc (.cells c4 t4)).alloc (.cells c5 t5)).alloc (.cells c6 t6)).alloc (.cells c7 t7) ∧ Bx W w.heap.size c0 t0 ∧ Bx W (w.heap.size + 1) c1 t1 ∧ Bx W (w.heap.size + 1 + 1) c2 t2 ∧ Bx W (w.heap.size + 1 + 1 + 1) c3 t3 ∧ Bx W (w.heap.size + 1 + 1 + 1 + 1) c4 t4 ∧ Bx W (w.heap.size + 1 + 1 + 1 + 1 + 1) c5 t5 ∧ Bx W (w.heap.size + 1 + 1 + 1 + 1 + 1 + 1) c6 t6 ∧ Bx W (w.heap.size + 1 + 1 + 1 + 1 + 1 + 1 + 1) c7 t7 ∧ Below w.heap.size w W := by
  obtain ⟨W, hW, x0, x1, x2, x3, x4, x5, x6, hB⟩ := boxes7 w c0 t0 c1 t1 c2 t2 c3 t3 c4 t4 c5 t5 c6 t6
  have hs : W.heap.size = w.heap.size + 1 + 1 + 1 + 1 + 1 + 1 + 1 := by rw [hW]; simp
  have hn := Bx.new W c7 t7
  rw [hs] at hn
  subst hW
  exact ⟨_, rfl, x0.below (lit_below _ _), x1.below (lit_below _ _), x2.below (lit_below _ _), x3.below (lit_below _ _), x4.below (lit_below _ _), x5.below (lit_below _ _), x6.below (lit_below _ _), hn, below_trans hB (lit_below _ _)⟩

/-- Every digit of 64 bits is as it was. -/
def K64 (w w' : World) : Prop := ∀ (p : Addr) (n : Int), w.cell? p = some (.int .u64 n) → w'.cell? p = some (.int .u64 n)
theorem K64.refl (w : World) : K64 w w := fun _ _ h => h
theorem K64.trans {a b c : World} (h : K64 a b) (k : K64 b c) : K64 a c := fun p n hp => k p n (h p n hp)
theorem K64.below {w w' : World} (h : Below w.heap.size w w') : K64 w w' := fun p _ hc => (h.cell (World.block_lt_of_cell? w p hc)).trans hc
theorem K64.set {w : World} {p : Addr} {u : Value} (x : w.cell? p = some u) (hu : ∀ n, u ≠ .int .u64 n) (v : Value) : K64 w (w.setCell p v) := fun q n hq => by
  rw [World.cell?_setCell_other]
  · exact hq
  · intro e
    rw [← e, x] at hq
    exact hu _ (Option.some.inj hq)
theorem K64.box {w : World} {b i : Nat} {cs : Array Value} {t : TypeId} {u : Value} (h : Bx w b cs t) (hi : cs[i]? = some u) (hu : ∀ n, u ≠ .int .u64 n) (v : Value) : K64 w (w.setCell ⟨b, i, none⟩ v) := K64.set (h.cell i u hi) hu v
/-- A struct of two cells is stored over. -/
theorem store2 {w : World} {b : Nat} {t : TypeId} {u0 u1 : Value} (v0 v1 : Value) (h : Bx w b #[u0, u1] t) (n0 : ∀ n, u0 ≠ .int .u64 n) (n1 : ∀ n, u1 ≠ .int .u64 n) :
    ∃ W, W = (w.setCell ⟨b, 0, none⟩ v0).setCell ⟨b, 1, none⟩ v1 ∧ Bx W b #[v0, v1] t ∧ K64 w W ∧ (∀ b' cs t', b' ≠ b → Bx w b' cs t' → Bx W b' cs t') ∧ (∀ B w0, B ≤ b → Below B w0 w → Below B w0 W) := by
  refine ⟨_, rfl, (h.set 0 v0).set 1 v1, (K64.box h (i := 0) rfl n0 v0).trans (K64.box (h.set 0 v0) (i := 1) rfl n1 v1), fun b' cs t' hb hx => (hx.far hb v0).far hb v1, fun B w0 hB hb => (hb.setCell hB v0).setCell hB v1⟩
section
variable {w w' : World} {A : Option Addr} {c l n : Nat} {b : Bool} {z : Int} {xs : List Nat}
theorem Nums.k (h : Nums w A c xs) (k : K64 w w') : Nums w' A c xs := ⟨h.ok, h.le, fun hp => by
  obtain ⟨b, off, e, hc⟩ := h.cells hp
  exact ⟨b, off, e, fun j hj => k _ _ (hc j hj)⟩⟩
theorem V.k (h : V w A c l n) (k : K64 w w') : V w' A c l n := by obtain ⟨xs, h1, h2⟩ := h; exact ⟨xs, h1.k k, h2⟩
theorem C.k (h : C w A c l n) (k : K64 w w') : C w' A c l n := ⟨h.1.k k, h.2⟩
theorem I.k (h : I w b A c l z) (k : K64 w w') : I w' b A c l z := by obtain ⟨n, h1, h2⟩ := h; exact ⟨n, h1.k k, h2⟩
theorem J.vv (h : J w b A c l z) : V w A c l z.natAbs := h.1.v
theorem J.k (h : J w b A c l z) (k : K64 w w') : J w' b A c l z := ⟨h.1.k k, h.2⟩
end
theorem I.drew {w : World} {b : Bool} {A : Option Addr} {c l : Nat} {z : Int} (h : I w b A c l z) : I w.drew b A c l z := h.below (Below.drew (Below.refl _ _))
theorem J.drew {w : World} {b : Bool} {A : Option Addr} {c l : Nat} {z : Int} (h : J w b A c l z) : J w.drew b A c l z := h.below (Below.drew (Below.refl _ _))
end Go.Proofs.YtionhpangenhnaaDoor
