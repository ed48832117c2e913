/-
  Queues: Push. Written by wip/gen/qu10.py.
-/
import Derived.Test.YtihdaemjabhhkaaGreatDoorQu9
import Derived.Deep.DeepCutAuto
namespace Go.Proofs.YtihdaemjabhhkaaGreatDoor
open Go.RowKit Tw Hp

theorem QH.below {w w' : World} {qb B : Nat} {c0 c2 : Value} {L : List Itm} (h : QH w qb B c0 c2 L) (hb : Below w.heap.size w w') : QH w' qb B c0 c2 L := by
  obtain ⟨⟨H, cap, h1, h2⟩, h3, h4, h5, h6⟩ := h
  exact ⟨⟨H, cap, h1.below hb, h2.below hb⟩, h3, h4.k (K64.below hb), h5, h6⟩
theorem QH.kept {w w' : World} {qb B x : Nat} {c0 c2 : Value} {L : List Itm} {cs : Array Value} {t : TypeId} (h : QH w qb B c0 c2 L) (hg : w.grownBy w' (some x)) (k : K64 w w') (hx : qb ≠ x) (ht : t ≠ 110) (hb : Bx w x cs t) : QH w' qb B c0 c2 L := by
  obtain ⟨⟨H, cap, h1, h2⟩, h3, h4, h5, h6⟩ := h
  exact ⟨⟨H, cap, (hg.block qb h1.lt (by simpa using hx)).trans h1, h2.kept hg (.inr (own_ne h2 ht hb))⟩, h3, h4.k k, h5, h6⟩
/-- Every whole number of a slice of pairs stays. -/
theorem Fx.kept {w w' : World} {F : Option Addr} {fl fc x : Nat} {ps : List Int} (h : Fx w F fl fc ps) (hg : w.grownBy w' (some x)) (hx : ∀ ad, F = some ad → 0 < fl → ad.block ≠ x) : Fx w' F fl fc ps := by
  refine ⟨h.1, h.2.1, fun ad ha j u hu => ?_⟩
  have h1 := h.2.2 ad ha j u hu
  refine hg.cell h1 ?_
  have hj : 0 < fl := by
    rcases Nat.eq_zero_or_pos fl with e | e
    · exfalso
      have := h.1
      rw [e] at this
      obtain rfl : ps = [] := List.eq_nil_of_length_eq_zero (by simpa using this)
      simp at hu
    · exact e
  have := hx ad ha hj
  have e : (ad.add j).block = ad.block := by unfold Addr.add; split <;> rfl
  rw [e]
  simpa using this
theorem Fx.off {w : World} {F : Option Addr} {fl fc : Nat} {ps : List Int} (h : Fx w F fl fc ps) : ∀ ad, F = some ad → 0 < fl → ad.block < w.heap.size := fun ad ha hl => by
  have hp : 0 < ps.length := by rw [h.1]; omega
  have h1 := h.2.2 ad ha 0 (.int .i64 ps[0]) (by rw [List.getElem?_map, List.getElem?_eq_getElem hp]; rfl)
  have h2 := World.block_lt_of_cell? w _ h1
  have e : (ad.add 0).block = ad.block := by unfold Addr.add; split <;> rfl
  rw [e] at h2
  exact h2
/-- A node is pushed. -/
def QPush2 (w : World) (qb B : Nat) (tn : Int) (q : Rat) (dep num : Int) (fl : Nat) (ps : List Int) (L : List Itm) (e : Ending) (w' : World) : Prop :=
  e = .returned (.int .i64 0) ∧ ∃ (x : Itm) (L' : List Itm), (x.q = q ∧ x.dep = dep ∧ x.num = num ∧ x.turn = tn) ∧ (x.fl = fl ∧ Fb w' w.heap.size x.F x.fl x.fc ps) ∧ L'.Perm (L ++ [x]) ∧ QH w' qb B (.pointer (some ⟨qb, 0, none⟩)) (.int .i64 (tn + 1)) L' ∧ QK w w' B
/-- The same, less told. -/
def QPush (w : World) (qb B : Nat) (tn : Int) (q : Rat) (dep num : Int) (L : List Itm) (e : Ending) (w' : World) : Prop :=
  e = .returned (.int .i64 0) ∧ ∃ (x : Itm) (L' : List Itm), (x.q = q ∧ x.dep = dep ∧ x.num = num ∧ x.turn = tn) ∧ L'.Perm (L ++ [x]) ∧ QH w' qb B (.pointer (some ⟨qb, 0, none⟩)) (.int .i64 (tn + 1)) L' ∧ QK w w' B
set_option maxRecDepth 100000 in
set_option maxHeartbeats 8000000 in
theorem push_q2 {w : World} {qb B : Nat} {L : List Itm} {tn dep num : Int} {s s' : Bool} {A A' F : Option Addr} {c c' l l' fl fc : Nat} {q : Rat} {ps : List Int} (h : QH w qb B (.pointer (some ⟨qb, 0, none⟩)) (.int .i64 tn) L) (hr : R w s A c l s' A' c' l' q 8) (hsz : sz q ≤ 20)
    (hf : Fx w F fl fc ps) (hfl : fl ≤ 1000000) (hlen : L.length < 1000000) (htn : 0 ≤ tn) (htn' : tn ≤ 2000000) (hT : Hid (Tab w)) :
    Calls Tryz.prog 13 #[.pointer (some ⟨qb, 0, none⟩), .agg #[.bool s, .slice A l c, .bool s', .slice A' l' c', .int .i64 dep, .int .i64 num, .slice F fl fc]] w (QPush2 w qb B tn q dep num fl ps L) := by
  obtain ⟨W, hW, x0, hB0⟩ := boxes1 w #[.bool s, .slice A l c, .bool s', .slice A' l' c', .int .i64 dep, .int .i64 num, .slice F fl fc] 36
  obtain ⟨b0, hb0⟩ : ∃ b, b = w.heap.size := ⟨_, rfl⟩
  rw [← hb0] at x0
  have hqlt : qb < b0 := by obtain ⟨H, cap, hq, _⟩ := h.at_; rw [hb0]; exact hq.lt
  have HW0 := Lib.hid hb0
  have hBb : B ≤ b0 := Nat.le_trans h.base (by omega)
  have HQ := Lib.hid (h.below hB0)
  have HR := Lib.hid (hr.below hB0)
  have HF := Lib.hid (hf.below hB0)
  have HX := Lib.hid x0
  have hBB := hB0
  have HFX : Hid (∀ ad, F = some ad → 0 < fl → ad.block ≠ b0) := Lib.hid fun ad ha hl => by have := hf.off ad ha hl; omega
  clear h hr hf x0
  obtain ⟨n, hn⟩ : ∃ n, n = L.length := ⟨_, rfl⟩
  have HN := Lib.hid hn
  rw [← hn] at hlen
  obtain ⟨H, cap, hq, _⟩ := HQ.out.at_
  rw [← hn] at hq
  have HBX := Lib.hid hq
  clear hq hn
  have g1 : decide ((1048576 : Int) ≤ (n : Int)) = false := by simp; omega
  go_enter Tryz.func13, Tryz.ntmps13
  go_wp2_with fail
  rw [← hW, ← hb0]
  clear hW hb0
  with_reducible refine (made_yes HBX.out).mono ?_
  rintro e w1 ⟨rfl, rfl⟩
  have c1 := HBX.out.cell 1 (.slice H n cap) rfl
  have p0 := HX.out.cell 0 (.bool s) rfl
  have p1 := HX.out.cell 1 (.slice A l c) rfl
  have p2 := HX.out.cell 2 (.bool s') rfl
  have p3 := HX.out.cell 3 (.slice A' l' c') rfl
  go_wp2_with fail
  with_reducible refine (norm_q HR.out (by omega) (Lib.hid (Tab.below hT.out hBB))).mono ?_
  rintro e w1 ⟨s1, A1, c1, l1, s1r, A1r, c1r, l1r, rfl, h1, b1⟩
  replace HQ := Lib.hid (HQ.out.below b1)
  replace HF := Lib.hid (HF.out.below b1)
  replace HX := Lib.hid (HX.out.below b1)
  replace hBB := below_trans hBB b1
  have H1 := Lib.hid h1
  clear h1 p0 p1 p2 p3 HR HBX
  have p0 := HX.out.cell 0 (.bool s) rfl
  have f0 := HX.out.frozen 0
  have p1 := HX.out.cell 1 (.slice A l c) rfl
  have f1 := HX.out.frozen 1
  have p2 := HX.out.cell 2 (.bool s') rfl
  have f2 := HX.out.frozen 2
  have p3 := HX.out.cell 3 (.slice A' l' c') rfl
  have f3 := HX.out.frozen 3
  have y0 := HX.out.lt
  go_upto_region 6 with (fail)
  have HXo := Lib.hid HX.out
  obtain ⟨V1, hV⟩ : ∃ V, V = (((w1.setCell ⟨b0, 0, none⟩ (.bool s1)).setCell ⟨b0, 1, none⟩ (.slice A1 l1 c1)).setCell ⟨b0, 2, none⟩ (.bool s1r)).setCell ⟨b0, 3, none⟩ (.slice A1r l1r c1r) := ⟨_, rfl⟩
  rw [← hV]
  have x1 : Bx (w1.setCell ⟨b0, 0, none⟩ (.bool s1)) b0 #[.bool s1, .slice A l c, .bool s', .slice A' l' c', .int .i64 dep, .int .i64 num, .slice F fl fc] 36 := HX.out.set 0 _
  have x2 : Bx ((w1.setCell ⟨b0, 0, none⟩ (.bool s1)).setCell ⟨b0, 1, none⟩ (.slice A1 l1 c1)) b0 #[.bool s1, .slice A1 l1 c1, .bool s', .slice A' l' c', .int .i64 dep, .int .i64 num, .slice F fl fc] 36 := x1.set 1 _
  have x3 : Bx (((w1.setCell ⟨b0, 0, none⟩ (.bool s1)).setCell ⟨b0, 1, none⟩ (.slice A1 l1 c1)).setCell ⟨b0, 2, none⟩ (.bool s1r)) b0 #[.bool s1, .slice A1 l1 c1, .bool s1r, .slice A' l' c', .int .i64 dep, .int .i64 num, .slice F fl fc] 36 := x2.set 2 _
  have x4 : Bx ((((w1.setCell ⟨b0, 0, none⟩ (.bool s1)).setCell ⟨b0, 1, none⟩ (.slice A1 l1 c1)).setCell ⟨b0, 2, none⟩ (.bool s1r)).setCell ⟨b0, 3, none⟩ (.slice A1r l1r c1r)) b0 #[.bool s1, .slice A1 l1 c1, .bool s1r, .slice A1r l1r c1r, .int .i64 dep, .int .i64 num, .slice F fl fc] 36 := x3.set 3 _
  have kk : K64 w1 V1 := by rw [hV]; exact (((K64.set p0 (fun _ e => by cases e) _).trans (K64.box x1 (i := 1) rfl (fun _ e => by cases e) _)).trans (K64.box x2 (i := 2) rfl (fun _ e => by cases e) _)).trans (K64.box x3 (i := 3) rfl (fun _ e => by cases e) _)
  have gg : w1.grownBy V1 (some b0) := by rw [hV]; exact grown_set (grown_set (grown_set (grown_set (grownBy_refl w1 (some b0)) (.inl rfl) _) (.inl rfl) _) (.inl rfl) _) (.inl rfl) _
  have X1 : Bx V1 b0 #[.bool s1, .slice A1 l1 c1, .bool s1r, .slice A1r l1r c1r, .int .i64 dep, .int .i64 num, .slice F fl fc] 36 := by rw [hV]; exact x4
  replace HX := Lib.hid X1
  replace HQ := Lib.hid (HQ.out.kept gg kk (x := b0) (by omega) (by decide) HXo.out)
  replace HF := Lib.hid (HF.out.kept gg HFX.out)
  replace H1 := Lib.hid (H1.out.k kk)
  replace hBB : Below w.heap.size w V1 := by rw [hV]; exact (((hBB.setCell (by rw [HW0.out]; exact Nat.le_refl _) _).setCell (by rw [HW0.out]; exact Nat.le_refl _) _).setCell (by rw [HW0.out]; exact Nat.le_refl _) _).setCell (by rw [HW0.out]; exact Nat.le_refl _) _
  clear HXo X1 x1 x2 x3 x4 hV gg kk p0 p1 p2 p3 f0 f1 f2 f3 y0
  have p6 := HX.out.cell 6 (.slice F fl fc) rfl
  go_wp2_with fail
  have hbV1 := HX.out.lt
  with_reducible refine (clone_q HF.out hfl).mono ?_
  rintro e w2 ⟨F2, fc2, rfl, hf2, b2⟩
  replace HQ := Lib.hid (HQ.out.below b2)
  replace HX := Lib.hid (HX.out.below b2)
  replace hBB := below_trans hBB b2
  replace H1 := Lib.hid (H1.out.below b2)
  have HF2 := Lib.hid hf2
  clear hf2 p6 HF
  have p6 := HX.out.cell 6 (.slice F fl fc) rfl
  have f6 := HX.out.frozen 6
  have y0 := HX.out.lt
  go_upto_region 7 with (fail)
  obtain ⟨V2, hV⟩ : ∃ V, V = w2.setCell ⟨b0, 6, none⟩ (.slice F2 fl fc2) := ⟨_, rfl⟩
  rw [← hV]
  have HXo := Lib.hid HX.out
  have X1 : Bx V2 b0 #[.bool s1, .slice A1 l1 c1, .bool s1r, .slice A1r l1r c1r, .int .i64 dep, .int .i64 num, .slice F2 fl fc2] 36 := by rw [hV]; exact HX.out.set 6 _
  have kk : K64 w2 V2 := by rw [hV]; exact K64.set p6 (fun _ e => by cases e) _
  have gg : w2.grownBy V2 (some b0) := by rw [hV]; exact grown_set (grownBy_refl w2 (some b0)) (.inl rfl) _
  replace HX := Lib.hid X1
  replace HQ := Lib.hid (HQ.out.kept gg kk (x := b0) (by omega) (by decide) HXo.out)
  replace H1 := Lib.hid (H1.out.k kk)
  replace HF2 := Lib.hid (HF2.out.far hbV1 gg)
  replace hBB : Below w.heap.size w V2 := by rw [hV]; exact hBB.setCell (by rw [HW0.out]; exact Nat.le_refl _) _
  clear HXo X1 hV gg kk p6 f6 y0
  obtain ⟨H3, cap3, hq3, _⟩ := HQ.out.at_
  have t2 := hq3.cell 2 (.int .i64 tn) rfl
  clear hq3
  have p0 := HX.out.cell 0 (.bool s1) rfl
  have p1 := HX.out.cell 1 (.slice A1 l1 c1) rfl
  have p2 := HX.out.cell 2 (.bool s1r) rfl
  have p3 := HX.out.cell 3 (.slice A1r l1r c1r) rfl
  have p4 := HX.out.cell 4 (.int .i64 dep) rfl
  have p5 := HX.out.cell 5 (.int .i64 num) rfl
  have p6 := HX.out.cell 6 (.slice F2 fl fc2) rfl
  (try simp only [List.append_eq, List.cons_append, List.nil_append])
  refine wp_region_plan (.pure 0 (.pure 1 (.pure 2 (.pure 3 (.take 4 (.pure 5 (.pure 6 (.pure 7 (.take 8 (.pure 9 (.pure 10 (.only 11 .done)))))))))))) [11] (fun w' => w'.cell? ⟨b0, 0, none⟩ = some (.bool s1) ∧ w'.cell? ⟨b0, 1, none⟩ = some (.slice A1 l1 c1) ∧ w'.cell? ⟨b0, 2, none⟩ = some (.bool s1r) ∧ w'.cell? ⟨b0, 3, none⟩ = some (.slice A1r l1r c1r) ∧ w'.cell? ⟨b0, 4, none⟩ = some (.int .i64 dep) ∧ w'.cell? ⟨b0, 5, none⟩ = some (.int .i64 num) ∧ w'.cell? ⟨b0, 6, none⟩ = some (.slice F2 fl fc2) ∧ w'.cell? ⟨qb, 2, none⟩ = some (.int .i64 tn)) (by kernel_rfl) (by kernel_rfl) ⟨p0, p1, p2, p3, p4, p5, p6, t2⟩ ?_
  refine wpPlan_pure (o := ⟨some 22, _, _, _, _, _⟩) (v := ?_) rfl rfl (fun w' => ?_) ?_
  rotate_left
  · go_simp <;> with_reducible rfl
  try simp only [Act.put, List.setIfInBounds_toArray, List.set_cons_zero, List.set_cons_succ]
  refine wpPlan_pure (o := ⟨some 23, _, _, _, _, _⟩) (v := ?_) rfl rfl (fun w' => ?_) ?_
  rotate_left
  · go_simp <;> with_reducible rfl
  try simp only [Act.put, List.setIfInBounds_toArray, List.set_cons_zero, List.set_cons_succ]
  refine wpPlan_pure (o := ⟨some 24, _, _, _, _, _⟩) (v := ?_) rfl rfl (fun w' => ?_) ?_
  rotate_left
  · go_simp <;> with_reducible rfl
  try simp only [Act.put, List.setIfInBounds_toArray, List.set_cons_zero, List.set_cons_succ]
  refine wpPlan_pure (o := ⟨some 25, _, _, _, _, _⟩) (v := ?_) rfl rfl (fun w' => ?_) ?_
  rotate_left
  · go_simp <;> with_reducible rfl
  try simp only [Act.put, List.setIfInBounds_toArray, List.set_cons_zero, List.set_cons_succ]
  refine wpPlan_take (o := ⟨some 26, _, _, _, _, _⟩) (v := ?_) rfl rfl (fun w' hS => ?_) ?_
  rotate_left
  · obtain ⟨p0, p1, p2, p3, p4, p5, p6, t2⟩ := hS; go_simp <;> with_reducible rfl
  try simp only [Act.put, List.setIfInBounds_toArray, List.set_cons_zero, List.set_cons_succ]
  refine wpPlan_pure (o := ⟨some 27, _, _, _, _, _⟩) (v := ?_) rfl rfl (fun w' => ?_) ?_
  rotate_left
  · go_simp <;> with_reducible rfl
  try simp only [Act.put, List.setIfInBounds_toArray, List.set_cons_zero, List.set_cons_succ]
  refine wpPlan_pure (o := ⟨some 28, _, _, _, _, _⟩) (v := ?_) rfl rfl (fun w' => ?_) ?_
  rotate_left
  · go_simp <;> with_reducible rfl
  try simp only [Act.put, List.setIfInBounds_toArray, List.set_cons_zero, List.set_cons_succ]
  refine wpPlan_pure (o := ⟨some 29, _, _, _, _, _⟩) (v := ?_) rfl rfl (fun w' => ?_) ?_
  rotate_left
  · go_simp <;> with_reducible rfl
  try simp only [Act.put, List.setIfInBounds_toArray, List.set_cons_zero, List.set_cons_succ]
  refine wpPlan_take (o := ⟨some 30, _, _, _, _, _⟩) (v := ?_) rfl rfl (fun w' hS => ?_) ?_
  rotate_left
  · obtain ⟨p0, p1, p2, p3, p4, p5, p6, t2⟩ := hS; go_simp <;> with_reducible rfl
  try simp only [Act.put, List.setIfInBounds_toArray, List.set_cons_zero, List.set_cons_succ]
  refine wpPlan_pure (o := ⟨some 31, _, _, _, _, _⟩) (v := ?_) rfl rfl (fun w' => ?_) ?_
  rotate_left
  · go_simp <;> with_reducible rfl
  try simp only [Act.put, List.setIfInBounds_toArray, List.set_cons_zero, List.set_cons_succ]
  refine wpPlan_pure (o := ⟨some 32, _, _, _, _, _⟩) (v := ?_) rfl rfl (fun w' => ?_) ?_
  rotate_left
  · go_simp <;> with_reducible rfl
  try simp only [Act.put, List.setIfInBounds_toArray, List.set_cons_zero, List.set_cons_succ]
  refine wpPlan_late (o := ⟨some 33, _, _, _, _, _⟩) rfl rfl (by decide) (fun K hK => ?_)
  go_simp
  have hx20 : R V2 s1 A1 c1 l1 s1r A1r c1r l1r q 20 := H1.out.r' hsz
  with_reducible refine (hpush_q ⟨s1, A1, c1, l1, s1r, A1r, c1r, l1r, q, dep, num, F2, fl, fc2, tn⟩ (HQ.out.below (by go_grown)) (hx20.below (by go_grown)) (by rw [← HN.out]; exact hlen)).mono ?_
  rintro e w3 ⟨rfl, L3, hp3, hq3, k3⟩
  have Q3 := Lib.hid hq3
  have P3 := Lib.hid hp3
  have K3 := Lib.hid k3
  obtain ⟨H4, cap4, hq4, ho4⟩ := hq3.at_
  have t4 := hq4.cell 2 (.int .i64 tn) rfl
  have f4 := hq4.frozen 2
  have y4 := hq4.lt
  have HQ4 := Lib.hid hq4
  have HO4 := Lib.hid ho4
  clear hq3 hp3 k3 hq4 ho4 hx20 p0 p1 p2 p3 p4 p5 p6 t2
  refine hK.out _ _ ?_
  try simp only [Act.put, List.setIfInBounds_toArray, List.set_cons_zero, List.set_cons_succ]
  clear hK K
  refine wpPlan_done ?_
  have u1 : IntKind.i64.wrap (tn + 1) = tn + 1 := IntWalk.i64_in _ (by omega)
  go_wp2_with fail
  go_ret
  have kk : K64 w3 (w3.setCell ⟨qb, 2, none⟩ (.int .i64 (tn + 1))) := K64.set t4 (fun _ e => by cases e) _
  have gg : w3.grownBy (w3.setCell ⟨qb, 2, none⟩ (.int .i64 (tn + 1))) (some qb) := grown_set (grownBy_refl w3 (some qb)) (.inl rfl) _
  have FF : Fb (w3.setCell ⟨qb, 2, none⟩ (.int .i64 (tn + 1))) w.heap.size F2 fl fc2 ps := (((HF2.out.below (by go_grown)).keep fun g cur _ hx => K3.out.far g cur _ (by decide) (by decide) hx).keep fun g cur _ hx => hx.far (bx_ne (by decide) hx HQ4.out) _).mono (by have := HW0.out; omega)
  refine ⟨rfl, ⟨s1, A1, c1, l1, s1r, A1r, c1r, l1r, q, dep, num, F2, fl, fc2, tn⟩, L3, ⟨rfl, rfl, rfl, rfl⟩, ⟨rfl, FF⟩, P3.out, ⟨⟨H4, cap4, HQ4.out.set 2 _, HO4.out.kept gg (.inr (own_ne HO4.out (by decide) HQ4.out))⟩, Q3.out.heap, Q3.out.ok.k kk, Q3.out.base, Q3.out.small⟩, ?_⟩
  have K0 : QK w V2 B := ⟨QFar.of_below hBB, K64.below hBB, hBB.mono (by rw [← HW0.out]; exact hBb)⟩
  have K1 : QK V2 w3 B := (QK.of_below (by go_grown) (Nat.le_trans hBb (by have := HX.out.lt; omega))).trans K3.out
  refine K0.trans (K1.trans ⟨fun b cs t ht1 ht2 hb => hb.far (bx_ne ht1 hb HQ4.out) _, kk, ?_⟩)
  exact (Below.refl B w3).setCell Q3.out.base _
theorem push_q {w : World} {qb B : Nat} {L : List Itm} {tn dep num : Int} {s s' : Bool} {A A' F : Option Addr} {c c' l l' fl fc : Nat} {q : Rat} {ps : List Int} (h : QH w qb B (.pointer (some ⟨qb, 0, none⟩)) (.int .i64 tn) L) (hr : R w s A c l s' A' c' l' q 8) (hsz : sz q ≤ 20)
    (hf : Fx w F fl fc ps) (hfl : fl ≤ 1000000) (hlen : L.length < 1000000) (htn : 0 ≤ tn) (htn' : tn ≤ 2000000) (hT : Hid (Tab w)) :
    Calls Tryz.prog 13 #[.pointer (some ⟨qb, 0, none⟩), .agg #[.bool s, .slice A l c, .bool s', .slice A' l' c', .int .i64 dep, .int .i64 num, .slice F fl fc]] w (QPush w qb B tn q dep num L) :=
  (push_q2 h hr hsz hf hfl hlen htn htn' hT).mono fun _ _ ⟨h1, x, L', h2, _, h3⟩ => ⟨h1, x, L', h2, h3⟩
end Go.Proofs.YtihdaemjabhhkaaGreatDoor
