/-
  The examples of layer 10: queries. Written by wip/gen/sx2.py.
-/
import Derived.Test.YtionhpangenhnaaDoorSx1
namespace Go.Proofs.YtionhpangenhnaaDoor
open Go.RowKit Tw

theorem cell_al {w : World} {p : Addr} {v : Value} {o : Obj} (h : w.cell? p = some v) : (w.alloc o).cell? p = some v := ((lit_below w o).cell (World.block_lt_of_cell? w p h)).trans h
/-- Two rows that lie apart. -/
def Ap (u v : Value) : Prop := u.ownBlock = none ∨ u.ownBlock ≠ v.ownBlock
theorem Ap.symm {u v : Value} (h : Ap u v) : Ap v u := by
  cases e : v.ownBlock with
  | none => exact .inl e
  | some g =>
    refine .inr (fun h2 => ?_)
    rcases h with h | h
    · rw [h, e] at h2; cases h2
    · exact h h2.symm
theorem Ap.nil (v : Value) : Ap (.slice none 0 0) v := .inl rfl
theorem Grew.ap {w w' : World} {v v' u : Value} {B n k : Nat} {e : TypeId} {xs : List Value} (hg : Grew w w' v v') (hu : OwnR w B e k u n xs) (h : Ap u v) : Ap u v' := by
  rcases h with h | h
  · exact .inl h
  · refine .inr (fun e2 => ?_)
    rcases hg.new with h2 | ⟨g, h2, h3⟩
    · rw [h2] at e2; exact h e2
    · rw [h2] at e2; have := hu.lt g e2; omega
theorem OwnR.far {w W : World} {B n size b : Nat} {e : TypeId} {v : Value} {xs : List Value} (ho : OwnR w B e size v n xs) (far : ∀ b' cs t', b' ≠ b → Bx w b' cs t' → Bx W b' cs t') (hb : b < B) : OwnR W B e size v n xs := by
  obtain ⟨h1, h2 | ⟨g, cap, cur, rfl, a2, a3, a4⟩⟩ := ho
  · exact ⟨h1, .inl h2⟩
  · exact ⟨h1, .inr ⟨g, cap, cur, rfl, a2, far g cur e (by omega) a3, a4⟩⟩
/-- Numbers told: all are q, in the one form. -/
def AllQ (w : World) (q : Rat) (L : List Fr) : Prop := ∀ x ∈ L, FrOk w 1 x ∧ x.q = q ∧ x.ex = true
theorem AllQ.k {w w' : World} {q : Rat} {L : List Fr} (h : AllQ w q L) (hk : K64 w w') : AllQ w' q L := fun x hx => ⟨(h x hx).1.k hk, (h x hx).2⟩
theorem AllQ.below {w w' : World} {q : Rat} {L : List Fr} (h : AllQ w q L) (hb : Below w.heap.size w w') : AllQ w' q L := fun x hx => ⟨(h x hx).1.below hb, (h x hx).2⟩
theorem AllQ.snoc {w : World} {q : Rat} {L : List Fr} {x : Fr} (h : AllQ w q L) (hx : FrOk w 1 x ∧ x.q = q ∧ x.ex = true) : AllQ w q (L ++ [x]) := fun y hy => by
  rcases List.mem_append.1 hy with hy | hy
  · exact h y hy
  · obtain rfl := List.mem_singleton.1 hy; exact hx
/-- A state of the loop of query. -/
def QE (w : World) (bq : Nat) (label : Int) (ql qh : Rat) (n gk : Nat) (s : Value) (wr : World) : Prop :=
  ∃ (i : Nat) (xA oA hA : Option Addr) (xc oc hc : Nat) (X O H : List Fr), i ≤ n ∧ n - i = gk ∧ s = .int .i64 (i : Int) ∧ Below w.heap.size w wr ∧ Bx wr w.heap.size #[.slice none 0 0, .int .i64 0, .slice none 0 0, .slice none 0 0, .int .u8 0] 47 ∧ Bx wr bq #[.slice xA i xc, .int .i64 label, .slice oA i oc, .slice hA i hc, .int .u8 1] 47 ∧
    OwnR wr (bq + 1) 27 4 (.slice xA i xc) i (flat Fr.cs X) ∧ OwnR wr (bq + 1) 27 4 (.slice oA i oc) i (flat Fr.cs O) ∧ OwnR wr (bq + 1) 27 4 (.slice hA i hc) i (flat Fr.cs H) ∧
    Ap (.slice xA i xc) (.slice oA i oc) ∧ Ap (.slice xA i xc) (.slice hA i hc) ∧ Ap (.slice oA i oc) (.slice hA i hc) ∧ X.length = i ∧ O.length = i ∧ H.length = i ∧ AllQ wr 0 X ∧ AllQ wr ql O ∧ AllQ wr qh H
/-- A query told: n numbers each, q0 is the label; what it comes to beside a network of inp inputs. -/
def TellsQy (w : World) (n : Nat) (ql qh : Rat) (label : Int) (e : Ending) (w' : World) : Prop :=
  ∃ q : Qy, e = .returned (.agg #[.slice q.xA q.xn q.xc, .int .i64 q.label, .slice q.oA q.on q.oc, .slice q.hA q.hn q.hc, .int .u8 q.norm]) ∧ QyOk w' 1 q ∧ q.label = label ∧ q.norm = 1 ∧ q.xn = n ∧ q.on = n ∧ q.hn = n ∧ AllQ w' 0 q.X ∧ AllQ w' ql q.O ∧ AllQ w' qh q.H ∧ Below w.heap.size w w'
/-- A part of a struct is stored over. -/
theorem st5_0_1 {w : World} {b : Nat} {t : TypeId} {u0 u1 u2 u3 u4 : Value} (v0 : Value) (h0 : Bx w b #[u0, u1, u2, u3, u4] t) (n0 : ∀ n, u0 ≠ .int .u64 n) :
    ∃ W, W = w.setCell ⟨b, 0, none⟩ v0 ∧ Bx W b #[v0, u1, u2, u3, u4] t ∧ K64 w W ∧ (∀ b' cs t', b' ≠ b → Bx w b' cs t' → Bx W b' cs t') ∧ (∀ B w0, B ≤ b → Below B w0 w → Below B w0 W) := by
  have h1 : Bx (w.setCell ⟨b, 0, none⟩ v0) b #[v0, u1, u2, u3, u4] t := h0.set 0 v0
  have k0 : K64 (w) (w.setCell ⟨b, 0, none⟩ v0) := K64.box h0 (i := 0) rfl n0 v0
  exact ⟨_, rfl, h1, k0, fun b' cs t' hb hx => (hx.far hb v0), fun B w0 hB hb => (hb.setCell hB v0)⟩
/-- A part of a struct is stored over. -/
theorem st5_2_1 {w : World} {b : Nat} {t : TypeId} {u0 u1 u2 u3 u4 : Value} (v2 : Value) (h0 : Bx w b #[u0, u1, u2, u3, u4] t) (n2 : ∀ n, u2 ≠ .int .u64 n) :
    ∃ W, W = w.setCell ⟨b, 2, none⟩ v2 ∧ Bx W b #[u0, u1, v2, u3, u4] t ∧ K64 w W ∧ (∀ b' cs t', b' ≠ b → Bx w b' cs t' → Bx W b' cs t') ∧ (∀ B w0, B ≤ b → Below B w0 w → Below B w0 W) := by
  have h3 : Bx (w.setCell ⟨b, 2, none⟩ v2) b #[u0, u1, v2, u3, u4] t := h0.set 2 v2
  have k2 : K64 (w) (w.setCell ⟨b, 2, none⟩ v2) := K64.box h0 (i := 2) rfl n2 v2
  exact ⟨_, rfl, h3, k2, fun b' cs t' hb hx => (hx.far hb v2), fun B w0 hB hb => (hb.setCell hB v2)⟩
/-- A part of a struct is stored over. -/
theorem st5_3_1 {w : World} {b : Nat} {t : TypeId} {u0 u1 u2 u3 u4 : Value} (v3 : Value) (h0 : Bx w b #[u0, u1, u2, u3, u4] t) (n3 : ∀ n, u3 ≠ .int .u64 n) :
    ∃ W, W = w.setCell ⟨b, 3, none⟩ v3 ∧ Bx W b #[u0, u1, u2, v3, u4] t ∧ K64 w W ∧ (∀ b' cs t', b' ≠ b → Bx w b' cs t' → Bx W b' cs t') ∧ (∀ B w0, B ≤ b → Below B w0 w → Below B w0 W) := by
  have h4 : Bx (w.setCell ⟨b, 3, none⟩ v3) b #[u0, u1, u2, v3, u4] t := h0.set 3 v3
  have k3 : K64 (w) (w.setCell ⟨b, 3, none⟩ v3) := K64.box h0 (i := 3) rfl n3 v3
  exact ⟨_, rfl, h4, k3, fun b' cs t' hb hx => (hx.far hb v3), fun B w0 hB hb => (hb.setCell hB v3)⟩
set_option maxRecDepth 100000 in
set_option maxHeartbeats 4000000 in
theorem exQuery_q {w : World} (n : Nat) (hn : n ≤ 1000) (lo hi label : Int) (hlo : -1000 ≤ lo ∧ lo ≤ 1000) (hhi : -1000 ≤ hi ∧ hi ≤ 1000) (hT : Hid (Tab w)) :
    Calls Tryd.prog 13 #[.int .i64 (n : Int), .int .i64 lo, .int .i64 hi, .int .i64 label] w (TellsQy w n (qof lo 1) (qof hi 1) label) := by
  have hszl : sz (qof lo 1) ≤ 1 := sz_one (by omega) (by decide) (by decide)
  have hszh : sz (qof hi 1) ≤ 1 := sz_one (by omega) (by decide) (by decide)
  obtain ⟨W, hW, x0, hB⟩ := boxes1 w #[.slice none 0 0, .int .i64 0, .slice none 0 0, .slice none 0 0, .int .u8 0] 47
  have HX0 := Lib.hid x0
  clear x0
  have Bz := Below.refl W.heap.size W
  go_enter Tryd.func13, Tryd.ntmps13
  go_upto_region 1 with (fail)
  rw [← hW]
  clear hW
  go_upto_region 2 with (fail)
  obtain ⟨V1, hW, x1, hN⟩ := boxes1 W #[.slice none 0 0, .int .i64 label, .slice none 0 0, .slice none 0 0, .int .u8 1] 47
  rw [← hW]
  clear hW
  obtain ⟨v1, hb1⟩ : ∃ b, b = W.heap.size := ⟨_, rfl⟩
  rw [← hb1] at x1 ⊢
  have o0_1 : w.heap.size < v1 := by have := (HX0.out.below Bz).lt; omega
  have ow_1 : w.heap.size ≤ v1 := by have := hB.size; have := Bz.size; omega
  replace hB := below_trans (below_trans hB Bz) hN
  replace HX0 := Lib.hid ((HX0.out.below Bz).below hN)
  have HX1 := Lib.hid x1
  clear x1 hN Bz hb1
  have Bz := Below.refl V1.heap.size V1
  go_wp2_with fail
  have HB1 := Lib.hid (below_trans hB Bz)
  have XX0 := Lib.hid (HX0.out.below Bz)
  have XX1 := Lib.hid (HX1.out.below Bz)
  clear hB Bz HX0 HX1
  go_loopg [10] n (fun gk s wr => QE w v1 label (qof lo 1) (qof hi 1) n gk s wr)
  case atStart => exact ⟨0, none, none, none, 0, 0, 0, [], [], [], Nat.zero_le _, rfl, rfl, HB1.out, XX0.out, XX1.out, OwnR.nil _ _ _ _, OwnR.nil _ _ _ _, OwnR.nil _ _ _ _, Ap.nil _, Ap.nil _, Ap.nil _, rfl, rfl, rfl, (fun x hx => (by cases hx)), (fun x hx => (by cases hx)), (fun x hx => (by cases hx))⟩
  case round =>
    clear HB1 XX0 XX1
    obtain ⟨i, xA, oA, hA, xc, oc, hc, X, O, H, hi', hgk, rfl, hB, hx0, hx1, hoX, hoO, hoH, apXO, apXH, apOH, hXL, hOL, hHL, haX, haO, haH⟩ := hrel
    have HGK := Lib.hid hgk
    have HXL := Lib.hid hXL
    have HOL := Lib.hid hOL
    have HHL := Lib.hid hHL
    have HX0 := Lib.hid hx0
    have HX1 := Lib.hid hx1
    have apOX := apXO.symm
    have apHX := apXH.symm
    have apHO := apOH.symm
    clear hgk hXL hOL hHL hx0 hx1
    by_cases hlt : i < n
    · have i1 : (i : Int) < (n : Int) := by omega
      have Bz := Below.refl wr.heap.size wr
      have p1_0 := (HX1.out.below Bz).cell 0 (.slice xA i xc) rfl
      go_wp2_with (at_builtin; refine And.left (b := True) ?_)
      refine ⟨?_, trivial⟩
      obtain ⟨V1, hW, x2, hN⟩ := boxes1 wr #[.bool false, .slice none 0 0, .bool false, .slice none 0 0] 27
      rw [← hW]
      clear hW
      obtain ⟨v2, hb2⟩ : ∃ b, b = wr.heap.size := ⟨_, rfl⟩
      rw [← hb2] at x2 ⊢
      have o0_2 : w.heap.size < v2 := by have := (HX0.out.below Bz).lt; omega
      have o1_2 : v1 < v2 := by have := (HX1.out.below Bz).lt; omega
      have ow_2 : w.heap.size ≤ v2 := by have := hB.size; have := Bz.size; omega
      replace haH := haH.below hN
      replace haO := haO.below hN
      replace haX := haX.below hN
      replace hoH := hoH.below hN
      replace hoO := hoO.below hN
      replace hoX := hoX.below hN
      replace hB := below_trans (below_trans hB Bz) hN
      replace HX0 := Lib.hid ((HX0.out.below Bz).below hN)
      replace HX1 := Lib.hid ((HX1.out.below Bz).below hN)
      have HX2 := Lib.hid x2
      clear x2 hN Bz hb2
      have Bz := Below.refl V1.heap.size V1
      clear p1_0
      refine Elt.app elt_rat rfl _ _ rfl (v1 + 1) (.slice xA i xc) (i) (X) rfl hoX (.slice (some ⟨v2, 0, none⟩) 1 1) (1) ([zFr]) rfl (From.one (HX2.out.below Bz) (zFr) rfl (elt_rat.len _)) (by omega) (by have := (HX1.out.below Bz).lt; omega) ?_
      intro H1 c1 w1 ho1 hg1
      replace hB := (below_trans hB Bz).trans (hg1.below (by have := hB.size; have := Bz.size; omega) (fun g hg => by have := hoX.base g hg; omega))
      replace HX0 := Lib.hid (hg1.bx (HX0.out.below Bz) (hoX.off (by omega)))
      replace HX1 := Lib.hid (hg1.bx (HX1.out.below Bz) (hoX.off (by omega)))
      clear HX2
      have apOX' := hg1.ap hoO apOX
      have apXO' := apOX'.symm
      replace hoO := hoO.grown hg1 apOX
      clear apOX apXO
      have apOX := apOX'
      have apXO := apXO'
      clear apOX' apXO'
      have apHX' := hg1.ap hoH apHX
      have apXH' := apHX'.symm
      replace hoH := hoH.grown hg1 apHX
      clear apHX apXH
      have apHX := apHX'
      have apXH := apXH'
      clear apHX' apXH'
      replace haH := haH.k hg1.k
      replace haO := haO.k hg1.k
      replace haX := haX.k hg1.k
      clear hg1 Bz
      have Bz := Below.refl w1.heap.size w1
      have p1_0 := (HX1.out.below Bz).cell 0 (.slice xA i xc) rfl
      have f1_0 := (HX1.out.below Bz).frozen 0
      have y1 := (HX1.out.below Bz).lt
      go_upto_region 6 with (fail)
      obtain ⟨V2, hW, x, kk, far, bel⟩ := st5_0_1 (.slice H1 (i + 1) c1) (HX1.out.below Bz) (fun _ e => by cases e)
      rw [← hW]
      clear hW
      replace haH := haH.k kk
      replace haO := haO.k kk
      replace haX := haX.k kk
      replace ho1 := ho1.far far (by omega)
      replace hoH := hoH.far far (by omega)
      replace hoO := hoO.far far (by omega)
      replace hB := bel w.heap.size w (by omega) (below_trans hB Bz)
      replace HX0 := Lib.hid (far _ _ _ (by omega) (HX0.out.below Bz))
      replace HX1 := Lib.hid x
      clear x kk far bel Bz
      have Bz := Below.refl V2.heap.size V2
      clear p1_0 f1_0 y1
      have p1_2 := (HX1.out.below Bz).cell 2 (.slice oA i oc) rfl
      have f1_2 := (HX1.out.below Bz).frozen 2
      have y1 := (HX1.out.below Bz).lt
      go_wp2_with fail
      (try simp only [List.append_eq, List.cons_append, List.nil_append])
      refine wp_region_plan (.pure 0 (.take 1 (.pure 2 (.only 3 (.only 4 (.only 5 (.pure 6 (.only 7 .done)))))))) [5, 7] (fun w' => w'.cell? ⟨v1, 2, none⟩ = some (.slice oA i oc)) (by kernel_rfl) (by kernel_rfl) p1_2 ?_
      refine wpPlan_pure (o := ⟨some 24, _, _, _, _, _⟩) (v := ?_) rfl rfl (fun w' => ?_) ?_
      rotate_left
      · go_simp <;> with_reducible rfl
      try simp only [Act.put, List.setIfInBounds_toArray, List.set_cons_zero, List.set_cons_succ]
      refine wpPlan_take (o := ⟨some 25, _, _, _, _, _⟩) (v := ?_) rfl rfl (fun w' hS => ?_) ?_
      rotate_left
      · obtain p1_2 := hS; go_simp <;> with_reducible rfl
      try simp only [Act.put, List.setIfInBounds_toArray, List.set_cons_zero, List.set_cons_succ]
      refine wpPlan_pure (o := ⟨some 26, _, _, _, _, _⟩) (v := ?_) rfl rfl (fun w' => ?_) ?_
      rotate_left
      · go_simp <;> with_reducible rfl
      try simp only [Act.put, List.setIfInBounds_toArray, List.set_cons_zero, List.set_cons_succ]
      refine wpPlan_call (o := ⟨some 27, _, _, _, _, _⟩) rfl rfl (fun K hK => ?_)
      go_simp
      with_reducible refine (of_q lo 1 (Lib.hid (by omega)) (Lib.hid (by omega)) (Lib.hid (Tab.below hT.out (below_trans hB (below_trans (b := V2) Bz (by go_grown)))))).mono ?_
      rintro e w2 ⟨s2, A2, c2, l2, s2r, A2r, c2r, l2r, rfl, h2, b2⟩
      replace b2 := below_trans (a := V2) (by go_grown) b2
      replace haH := haH.below b2
      replace haO := haO.below b2
      replace haX := haX.below b2
      replace ho1 := ho1.below b2
      replace hoH := hoH.below b2
      replace hoO := hoO.below b2
      replace Bz := below_trans Bz b2
      clear b2
      clear p1_2 f1_2 y1
      have p1_2 := (HX1.out.below Bz).cell 2 (.slice oA i oc) rfl
      have f1_2 := (HX1.out.below Bz).frozen 2
      have y1 := (HX1.out.below Bz).lt
      refine hK.out _ _ p1_2 (fun _ => ?_)
      try simp only [Act.put, List.setIfInBounds_toArray, List.set_cons_zero, List.set_cons_succ]
      clear hK K
      refine wpPlan_call (o := ⟨some 28, _, _, _, _, _⟩) rfl rfl (fun K hK => ?_)
      go_simp
      refine hK.out _ _ (cell_al p1_2) (fun _ => ?_)
      try simp only [Act.put, List.setIfInBounds_toArray, List.set_cons_zero, List.set_cons_succ]
      clear hK K
      refine wpPlan_late (o := ⟨some 29, _, _, _, _, _⟩) rfl rfl (by decide) (fun K hK => ?_)
      obtain ⟨V3, hW, x2, hN⟩ := boxes1 w2 #[.bool s2, .slice A2 l2 c2, .bool s2r, .slice A2r l2r c2r] 27
      rw [← hW]
      clear hW
      obtain ⟨v2, hb2⟩ : ∃ b, b = w2.heap.size := ⟨_, rfl⟩
      rw [← hb2] at x2 ⊢
      have o0_2 : w.heap.size < v2 := by have := (HX0.out.below Bz).lt; omega
      have o1_2 : v1 < v2 := by have := (HX1.out.below Bz).lt; omega
      have ow_2 : w.heap.size ≤ v2 := by have := hB.size; have := Bz.size; omega
      replace haH := haH.below hN
      replace haO := haO.below hN
      replace haX := haX.below hN
      replace h2 := h2.below hN
      replace ho1 := ho1.below hN
      replace hoH := hoH.below hN
      replace hoO := hoO.below hN
      replace hB := below_trans (below_trans hB Bz) hN
      replace HX0 := Lib.hid ((HX0.out.below Bz).below hN)
      replace HX1 := Lib.hid ((HX1.out.below Bz).below hN)
      have HX2 := Lib.hid x2
      clear x2 hN Bz hb2
      have Bz := Below.refl V3.heap.size V3
      clear p1_2 f1_2 y1
      refine Elt.wp elt_rat _ _ rfl (v1 + 1) (.slice oA i oc) (i) (O) rfl hoO (.slice (some ⟨v2, 0, none⟩) 1 1) (1) ([⟨s2, A2, c2, l2, s2r, A2r, c2r, l2r, qof lo 1, true⟩]) rfl (From.one (HX2.out.below Bz) (⟨s2, A2, c2, l2, s2r, A2r, c2r, l2r, qof lo 1, true⟩) rfl (elt_rat.len _)) (by omega) (by have := (HX1.out.below Bz).lt; omega) ?_
      intro H3 c3 w3 ho3 hg3
      refine hK.out _ _ ?_
      try simp only [Act.put, List.setIfInBounds_toArray, List.set_cons_zero, List.set_cons_succ]
      clear hK K
      replace hB := (below_trans hB Bz).trans (hg3.below (by have := hB.size; have := Bz.size; omega) (fun g hg => by have := hoO.base g hg; omega))
      replace HX0 := Lib.hid (hg3.bx (HX0.out.below Bz) (hoO.off (by omega)))
      replace HX1 := Lib.hid (hg3.bx (HX1.out.below Bz) (hoO.off (by omega)))
      clear HX2
      have apHO' := hg3.ap hoH apHO
      have apOH' := apHO'.symm
      replace hoH := hoH.grown hg3 apHO
      clear apHO apOH
      have apHO := apHO'
      have apOH := apOH'
      clear apHO' apOH'
      have apXO' := hg3.ap ho1 apXO
      have apOX' := apXO'.symm
      replace ho1 := ho1.grown hg3 apXO
      clear apXO apOX
      have apXO := apXO'
      have apOX := apOX'
      clear apXO' apOX'
      replace haH := haH.k hg3.k
      replace haO := haO.k hg3.k
      replace haX := haX.k hg3.k
      replace h2 := h2.k hg3.k
      clear hg3 Bz
      have Bz := Below.refl w3.heap.size w3
      have p1_2 := (HX1.out.below Bz).cell 2 (.slice oA i oc) rfl
      have f1_2 := (HX1.out.below Bz).frozen 2
      have y1 := (HX1.out.below Bz).lt
      refine wpPlan_pure (o := ⟨some 30, _, _, _, _, _⟩) (v := ?_) rfl rfl (fun w' => ?_) ?_
      rotate_left
      · go_simp <;> with_reducible rfl
      try simp only [Act.put, List.setIfInBounds_toArray, List.set_cons_zero, List.set_cons_succ]
      refine wpPlan_late (o := ⟨none, _, _, _, _, _⟩) rfl rfl (by decide) (fun K hK => ?_)
      go_simp
      refine hK.out _ _ ?_
      try simp only [Act.put, List.setIfInBounds_toArray, List.set_cons_zero, List.set_cons_succ]
      clear hK K
      refine wpPlan_done ?_
      obtain ⟨V4, hW, x, kk, far, bel⟩ := st5_2_1 (.slice H3 (i + 1) c3) (HX1.out.below Bz) (fun _ e => by cases e)
      rw [← hW]
      clear hW
      replace haH := haH.k kk
      replace haO := haO.k kk
      replace haX := haX.k kk
      replace h2 := h2.k kk
      replace ho1 := ho1.far far (by omega)
      replace ho3 := ho3.far far (by omega)
      replace hoH := hoH.far far (by omega)
      replace hB := bel w.heap.size w (by omega) (below_trans hB Bz)
      replace HX0 := Lib.hid (far _ _ _ (by omega) (HX0.out.below Bz))
      replace HX1 := Lib.hid x
      clear x kk far bel Bz
      have Bz := Below.refl V4.heap.size V4
      clear p1_2 f1_2 y1
      have p1_3 := (HX1.out.below Bz).cell 3 (.slice hA i hc) rfl
      have f1_3 := (HX1.out.below Bz).frozen 3
      have y1 := (HX1.out.below Bz).lt
      go_wp2_with fail
      (try simp only [List.append_eq, List.cons_append, List.nil_append])
      refine wp_region_plan (.pure 0 (.take 1 (.pure 2 (.only 3 (.only 4 (.only 5 (.pure 6 (.only 7 .done)))))))) [5, 7] (fun w' => w'.cell? ⟨v1, 3, none⟩ = some (.slice hA i hc)) (by kernel_rfl) (by kernel_rfl) p1_3 ?_
      refine wpPlan_pure (o := ⟨some 31, _, _, _, _, _⟩) (v := ?_) rfl rfl (fun w' => ?_) ?_
      rotate_left
      · go_simp <;> with_reducible rfl
      try simp only [Act.put, List.setIfInBounds_toArray, List.set_cons_zero, List.set_cons_succ]
      refine wpPlan_take (o := ⟨some 32, _, _, _, _, _⟩) (v := ?_) rfl rfl (fun w' hS => ?_) ?_
      rotate_left
      · obtain p1_3 := hS; go_simp <;> with_reducible rfl
      try simp only [Act.put, List.setIfInBounds_toArray, List.set_cons_zero, List.set_cons_succ]
      refine wpPlan_pure (o := ⟨some 33, _, _, _, _, _⟩) (v := ?_) rfl rfl (fun w' => ?_) ?_
      rotate_left
      · go_simp <;> with_reducible rfl
      try simp only [Act.put, List.setIfInBounds_toArray, List.set_cons_zero, List.set_cons_succ]
      refine wpPlan_call (o := ⟨some 34, _, _, _, _, _⟩) rfl rfl (fun K hK => ?_)
      go_simp
      with_reducible refine (of_q hi 1 (Lib.hid (by omega)) (Lib.hid (by omega)) (Lib.hid (Tab.below hT.out (below_trans hB (below_trans (b := V4) Bz (by go_grown)))))).mono ?_
      rintro e w4 ⟨s4, A4, c4, l4, s4r, A4r, c4r, l4r, rfl, h4, b4⟩
      replace b4 := below_trans (a := V4) (by go_grown) b4
      replace haH := haH.below b4
      replace haO := haO.below b4
      replace haX := haX.below b4
      replace h2 := h2.below b4
      replace ho1 := ho1.below b4
      replace ho3 := ho3.below b4
      replace hoH := hoH.below b4
      replace Bz := below_trans Bz b4
      clear b4
      clear p1_3 f1_3 y1
      have p1_3 := (HX1.out.below Bz).cell 3 (.slice hA i hc) rfl
      have f1_3 := (HX1.out.below Bz).frozen 3
      have y1 := (HX1.out.below Bz).lt
      refine hK.out _ _ p1_3 (fun _ => ?_)
      try simp only [Act.put, List.setIfInBounds_toArray, List.set_cons_zero, List.set_cons_succ]
      clear hK K
      refine wpPlan_call (o := ⟨some 35, _, _, _, _, _⟩) rfl rfl (fun K hK => ?_)
      go_simp
      refine hK.out _ _ (cell_al p1_3) (fun _ => ?_)
      try simp only [Act.put, List.setIfInBounds_toArray, List.set_cons_zero, List.set_cons_succ]
      clear hK K
      refine wpPlan_late (o := ⟨some 36, _, _, _, _, _⟩) rfl rfl (by decide) (fun K hK => ?_)
      obtain ⟨V5, hW, x2, hN⟩ := boxes1 w4 #[.bool s4, .slice A4 l4 c4, .bool s4r, .slice A4r l4r c4r] 27
      rw [← hW]
      clear hW
      obtain ⟨v2, hb2⟩ : ∃ b, b = w4.heap.size := ⟨_, rfl⟩
      rw [← hb2] at x2 ⊢
      have o0_2 : w.heap.size < v2 := by have := (HX0.out.below Bz).lt; omega
      have o1_2 : v1 < v2 := by have := (HX1.out.below Bz).lt; omega
      have ow_2 : w.heap.size ≤ v2 := by have := hB.size; have := Bz.size; omega
      replace haH := haH.below hN
      replace haO := haO.below hN
      replace haX := haX.below hN
      replace h2 := h2.below hN
      replace h4 := h4.below hN
      replace ho1 := ho1.below hN
      replace ho3 := ho3.below hN
      replace hoH := hoH.below hN
      replace hB := below_trans (below_trans hB Bz) hN
      replace HX0 := Lib.hid ((HX0.out.below Bz).below hN)
      replace HX1 := Lib.hid ((HX1.out.below Bz).below hN)
      have HX2 := Lib.hid x2
      clear x2 hN Bz hb2
      have Bz := Below.refl V5.heap.size V5
      clear p1_3 f1_3 y1
      refine Elt.wp elt_rat _ _ rfl (v1 + 1) (.slice hA i hc) (i) (H) rfl hoH (.slice (some ⟨v2, 0, none⟩) 1 1) (1) ([⟨s4, A4, c4, l4, s4r, A4r, c4r, l4r, qof hi 1, true⟩]) rfl (From.one (HX2.out.below Bz) (⟨s4, A4, c4, l4, s4r, A4r, c4r, l4r, qof hi 1, true⟩) rfl (elt_rat.len _)) (by omega) (by have := (HX1.out.below Bz).lt; omega) ?_
      intro H5 c5 w5 ho5 hg5
      refine hK.out _ _ ?_
      try simp only [Act.put, List.setIfInBounds_toArray, List.set_cons_zero, List.set_cons_succ]
      clear hK K
      replace hB := (below_trans hB Bz).trans (hg5.below (by have := hB.size; have := Bz.size; omega) (fun g hg => by have := hoH.base g hg; omega))
      replace HX0 := Lib.hid (hg5.bx (HX0.out.below Bz) (hoH.off (by omega)))
      replace HX1 := Lib.hid (hg5.bx (HX1.out.below Bz) (hoH.off (by omega)))
      clear HX2
      have apXH' := hg5.ap ho1 apXH
      have apHX' := apXH'.symm
      replace ho1 := ho1.grown hg5 apXH
      clear apXH apHX
      have apXH := apXH'
      have apHX := apHX'
      clear apXH' apHX'
      have apOH' := hg5.ap ho3 apOH
      have apHO' := apOH'.symm
      replace ho3 := ho3.grown hg5 apOH
      clear apOH apHO
      have apOH := apOH'
      have apHO := apHO'
      clear apOH' apHO'
      replace haH := haH.k hg5.k
      replace haO := haO.k hg5.k
      replace haX := haX.k hg5.k
      replace h2 := h2.k hg5.k
      replace h4 := h4.k hg5.k
      clear hg5 Bz
      have Bz := Below.refl w5.heap.size w5
      have p1_3 := (HX1.out.below Bz).cell 3 (.slice hA i hc) rfl
      have f1_3 := (HX1.out.below Bz).frozen 3
      have y1 := (HX1.out.below Bz).lt
      refine wpPlan_pure (o := ⟨some 37, _, _, _, _, _⟩) (v := ?_) rfl rfl (fun w' => ?_) ?_
      rotate_left
      · go_simp <;> with_reducible rfl
      try simp only [Act.put, List.setIfInBounds_toArray, List.set_cons_zero, List.set_cons_succ]
      refine wpPlan_late (o := ⟨none, _, _, _, _, _⟩) rfl rfl (by decide) (fun K hK => ?_)
      go_simp
      refine hK.out _ _ ?_
      try simp only [Act.put, List.setIfInBounds_toArray, List.set_cons_zero, List.set_cons_succ]
      clear hK K
      refine wpPlan_done ?_
      obtain ⟨V6, hW, x, kk, far, bel⟩ := st5_3_1 (.slice H5 (i + 1) c5) (HX1.out.below Bz) (fun _ e => by cases e)
      rw [← hW]
      clear hW
      replace haH := haH.k kk
      replace haO := haO.k kk
      replace haX := haX.k kk
      replace h2 := h2.k kk
      replace h4 := h4.k kk
      replace ho1 := ho1.far far (by omega)
      replace ho3 := ho3.far far (by omega)
      replace ho5 := ho5.far far (by omega)
      replace hB := bel w.heap.size w (by omega) (below_trans hB Bz)
      replace HX0 := Lib.hid (far _ _ _ (by omega) (HX0.out.below Bz))
      replace HX1 := Lib.hid x
      clear x kk far bel Bz
      have Bz := Below.refl V6.heap.size V6
      clear p1_3 f1_3 y1
      go_wp2_with fail
      go_roundg (n - (i + 1))
      case measure => have := HGK.out; omega
      case rel => exact ⟨i + 1, _, _, _, _, _, _, _, _, _, by omega, rfl, by go_num, below_trans hB Bz, HX0.out.below Bz, HX1.out.below Bz, ho1, ho3, ho5, apXO, apXH, apOH, by have := HXL.out; simp; omega, by have := HOL.out; simp; omega, by have := HHL.out; simp; omega, haX.snoc ⟨zFr_ok _ (Nat.le_refl _), rfl, rfl⟩, haO.snoc ⟨(h2).fr hszl, rfl, rfl⟩, haH.snoc ⟨(h4).fr hszh, rfl, rfl⟩⟩
    · obtain rfl : i = n := by omega
      have i1 : ¬ (i : Int) < (i : Int) := by omega
      have Bz := Below.refl wr.heap.size wr
      have p0_0 := (HX0.out.below Bz).cell 0 (.slice none 0 0) rfl
      have p0_1 := (HX0.out.below Bz).cell 1 (.int .i64 0) rfl
      have p0_2 := (HX0.out.below Bz).cell 2 (.slice none 0 0) rfl
      have p0_3 := (HX0.out.below Bz).cell 3 (.slice none 0 0) rfl
      have p0_4 := (HX0.out.below Bz).cell 4 (.int .u8 0) rfl
      have f0_0 := (HX0.out.below Bz).frozen 0
      have f0_1 := (HX0.out.below Bz).frozen 1
      have f0_2 := (HX0.out.below Bz).frozen 2
      have f0_3 := (HX0.out.below Bz).frozen 3
      have f0_4 := (HX0.out.below Bz).frozen 4
      have y0 := (HX0.out.below Bz).lt
      have p1_0 := (HX1.out.below Bz).cell 0 (.slice xA i xc) rfl
      have p1_1 := (HX1.out.below Bz).cell 1 (.int .i64 label) rfl
      have p1_2 := (HX1.out.below Bz).cell 2 (.slice oA i oc) rfl
      have p1_3 := (HX1.out.below Bz).cell 3 (.slice hA i hc) rfl
      have p1_4 := (HX1.out.below Bz).cell 4 (.int .u8 1) rfl
      go_wp2_with fail
      (try simp only [Exit.inBlock, Exit.then])
      refine bodyPost_ret (by simp [results, Tryd.results13, go_sem, p0_0, p0_1, p0_2, p0_3, p0_4]; try rfl) rfl ?_
      obtain ⟨V1, hW, x, kk, far, bel⟩ := store5 (.slice xA i xc) (.int .i64 label) (.slice oA i oc) (.slice hA i hc) (.int .u8 1) (HX0.out.below Bz) (fun _ e => by cases e) (fun _ e => by cases e) (fun _ e => by cases e) (fun _ e => by cases e) (fun _ e => by cases e)
      rw [← hW]
      clear hW
      replace haH := haH.k kk
      replace haO := haO.k kk
      replace haX := haX.k kk
      replace hoH := hoH.far far (by omega)
      replace hoO := hoO.far far (by omega)
      replace hoX := hoX.far far (by omega)
      replace hB := bel w.heap.size w (by omega) (below_trans hB Bz)
      replace HX1 := Lib.hid (far _ _ _ (by omega) (HX1.out.below Bz))
      replace HX0 := Lib.hid x
      clear x kk far bel Bz
      have Bz := Below.refl V1.heap.size V1
      have hF := below_trans (c := V1) hB Bz
      exact ⟨⟨xA, i, xc, X, label, oA, i, oc, O, hA, i, hc, H, 1⟩, rfl, ⟨⟨hoX.sl' elt_rat HXL.out, fun x hx => (haX x hx).1, (by show i ≤ 100000; omega)⟩, ⟨hoO.sl' elt_rat HOL.out, fun x hx => (haO x hx).1, (by show i ≤ 100000; omega)⟩, ⟨hoH.sl' elt_rat HHL.out, fun x hx => (haH x hx).1, (by show i ≤ 100000; omega)⟩⟩, rfl, rfl, rfl, rfl, rfl, haX, haO, haH, hF⟩
end Go.Proofs.YtionhpangenhnaaDoor
