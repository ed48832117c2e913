/-
  Queues: what was decided, cloned.
-/
import Derived.Test.YtihdaemjabhhkaaGreatDoorQu8
namespace Go.Proofs.YtihdaemjabhhkaaGreatDoor
open Go.RowKit Tw Hp

/-- A slice of pairs reads as ps. -/
def Fx (w : World) (F : Option Addr) (fl fc : Nat) (ps : List Int) : Prop :=
  ps.length = fl * 2 ∧ (F = none → fl = 0 ∧ fc = 0) ∧ ∀ ad, F = some ad → ∀ j u, (ps.map (Value.int .i64))[j]? = some u → w.cell? (ad.add j) = some u
theorem Fx.nil (w : World) : Fx w none 0 0 [] := ⟨rfl, fun _ => ⟨rfl, rfl⟩, fun _ h => by cases h⟩
theorem Fx.below {w w' : World} {F : Option Addr} {fl fc : Nat} {ps : List Int} (h : Fx w F fl fc ps) (hb : Below w.heap.size w w') : Fx w' F fl fc ps :=
  ⟨h.1, h.2.1, fun ad ha j u hu => (hb.cell (World.block_lt_of_cell? w _ (h.2.2 ad ha j u hu))).trans (h.2.2 ad ha j u hu)⟩
theorem infoPair : (Tryz.prog.info? 47).map (fun i => (i.zero, i.size, i.bytes)) = some (some (.agg #[.int .i64 0, .int .i64 0]), 2, 16) := by kernel_rfl
theorem add_zero_at (g j : Nat) : (⟨g, 0, none⟩ : Addr).add j = ⟨g, j, none⟩ := by
  unfold Addr.add
  split <;> simp_all
/-- A slice of pairs that a call made, in a block of its own from base on. -/
def Fb (w : World) (base : Nat) (F : Option Addr) (fl fc : Nat) (ps : List Int) : Prop :=
  ps.length = fl * 2 ∧ ((F = none ∧ fl = 0 ∧ fc = 0) ∨ ∃ g cur, F = some ⟨g, 0, none⟩ ∧ base ≤ g ∧ Bx w g cur 47 ∧ cur.toList.take (fl * 2) = ps.map (Value.int .i64))
theorem Fb.fx {w : World} {base : Nat} {F : Option Addr} {fl fc : Nat} {ps : List Int} (h : Fb w base F fl fc ps) : Fx w F fl fc ps := by
  obtain ⟨h1, ⟨rfl, rfl, rfl⟩ | ⟨g, cur, rfl, _, hb, h5⟩⟩ := h
  · exact ⟨h1, fun _ => ⟨rfl, rfl⟩, (fun _ h => (by cases h))⟩
  · refine ⟨h1, (fun h => (by cases h)), fun ad ha j u hu => ?_⟩
    cases ha
    rw [add_zero_at]
    refine hb.cell j u ?_
    rw [← h5, List.getElem?_take] at hu
    split at hu
    · simpa using hu
    · cases hu
theorem Fb.keep {w w' : World} {base : Nat} {F : Option Addr} {fl fc : Nat} {ps : List Int} (h : Fb w base F fl fc ps) (hk : ∀ g cur, F = some ⟨g, 0, none⟩ → Bx w g cur 47 → Bx w' g cur 47) : Fb w' base F fl fc ps := by
  obtain ⟨h1, h2 | ⟨g, cur, rfl, h3, hb, h5⟩⟩ := h
  · exact ⟨h1, .inl h2⟩
  · exact ⟨h1, .inr ⟨g, cur, rfl, h3, hk g cur rfl hb, h5⟩⟩
theorem Fb.below {w w' : World} {base : Nat} {F : Option Addr} {fl fc : Nat} {ps : List Int} (h : Fb w base F fl fc ps) (hb : Below w.heap.size w w') : Fb w' base F fl fc ps := h.keep fun _ _ _ x => x.below hb
theorem Fb.mono {w : World} {base base' : Nat} {F : Option Addr} {fl fc : Nat} {ps : List Int} (h : Fb w base F fl fc ps) (hb : base' ≤ base) : Fb w base' F fl fc ps := by
  obtain ⟨h1, h2 | ⟨g, cur, rfl, h3, h4⟩⟩ := h
  · exact ⟨h1, .inl h2⟩
  · exact ⟨h1, .inr ⟨g, cur, rfl, by omega, h4⟩⟩
theorem Fb.far {w w' : World} {base x : Nat} {F : Option Addr} {fl fc : Nat} {ps : List Int} (h : Fb w base F fl fc ps) (hx : x < base) (hg : w.grownBy w' (some x)) : Fb w' base F fl fc ps := by
  obtain ⟨h1, h2 | ⟨g, cur, rfl, h3, hb, h4⟩⟩ := h
  · exact ⟨h1, .inl h2⟩
  · exact ⟨h1, .inr ⟨g, cur, rfl, h3, (hg.block g hb.lt (by simp; omega)).trans hb, h4⟩⟩
/-- A copy told. -/
def TellsF (w : World) (fl : Nat) (ps : List Int) (e : Ending) (w' : World) : Prop := ∃ F fc, e = .returned (.slice F fl fc) ∧ Fb w' w.heap.size F fl fc ps ∧ Below w.heap.size w w'
set_option maxRecDepth 100000 in
set_option maxHeartbeats 4000000 in
theorem clone_q {w : World} {F : Option Addr} {fl fc : Nat} {ps : List Int} (h : Fx w F fl fc ps) (hl : fl ≤ 1000000) :
    Calls Tryz.prog 69 #[.slice F fl fc] w (TellsF w fl ps) := by
  obtain ⟨i0, hi, hz0, hz1, hz2⟩ := info_parts infoPair
  have q42 : ∀ (w : World) (a : Option Addr) (n c n' c' : Nat), (binOp .eql 34 (.slice a n c) (.slice none n' c')).run Tryz.prog w = .ok (.bool a.isNone) w := fun w a n c n' c' => Lib.run_eql_slice_nil w _ _ a n c n' c' Tryz.underlying34
  cases F with
  | none =>
    obtain ⟨rfl, rfl⟩ := h.2.1 rfl
    obtain rfl : ps = [] := List.eq_nil_of_length_eq_zero h.1
    clear h
    go_enter Tryz.func69, Tryz.ntmps69
    go_wp2_with fail
    go_ret
    exact ⟨none, 0, rfl, ⟨rfl, .inl ⟨rfl, rfl, rfl⟩⟩, Below.refl _ _⟩
  | some ad =>
    obtain ⟨W, hW, x0, hB⟩ := boxes1 w #[] 47
    have H1 := Lib.hid h.1
    have HC := Lib.hid ((h.below hB).2.2 ad rfl)
    have ho : W.ownsRow w.heap.size 47 2 (.slice (some ⟨w.heap.size, 0, none⟩) 0 0) 0 [] := ⟨by simp, .inr ⟨w.heap.size, 0, #[], rfl, Nat.le_refl _, x0, Nat.le_refl _, by unfold maxLen; omega, rfl, rfl⟩⟩
    have hone : ∀ u ∈ ps.map (Value.int .i64), u.oneCell' = true := fun u hu => by obtain ⟨d, _, rfl⟩ := List.mem_map.1 hu; rfl
    have HO := Lib.hid ho
    have HN := Lib.hid hone
    have hbw : w.heap.size ≤ W.heap.size := hB.size
    clear h x0 ho hone
    go_enter Tryz.func69, Tryz.ntmps69
    go_wp2_with (at_builtin; rw [← hW]; refine wpList_append_own _ rfl _ _ 34 rfl w.heap.size 47 i0 (.agg #[.int .i64 0, .int .i64 0]) 2 16 Tryz.underlying34 hi hz0 hz1 hz2 rfl (by decide) _ _ _ rfl HO.out ad fl fc (ps.map (Value.int .i64)) rfl (by rw [List.length_map]; exact H1.out) HC.out HN.out (by unfold maxLen; omega) (by omega) hbw ?_; intro v' w1 hown' hgrow _)
    have hb1 : Below w.heap.size w w1 := ⟨hgrow.os.trans hB.os, hgrow.tape.trans hB.tape, hgrow.output.trans hB.output, Nat.le_trans hB.size hgrow.size, fun i hi => (hgrow.block i (by omega) (by intro e; have e2 : i = w.heap.size := Option.some.inj e; omega)).trans (hB.block i hi)⟩
    have hT : ∃ F fc, v' = .slice F fl fc ∧ Fb w1 w.heap.size F fl fc ps := by
      simp only [Nat.zero_add, List.nil_append] at hown'
      obtain ⟨h1, ⟨rfl, h2⟩ | ⟨g, cap, cur, rfl, hbg, h4, _, _, _, h5⟩⟩ := hown'
      · subst h2
        exact ⟨none, 0, rfl, H1.out, .inl ⟨rfl, rfl, rfl⟩⟩
      · exact ⟨some ⟨g, 0, none⟩, cap, rfl, H1.out, .inr ⟨g, cur, rfl, hbg, h4, h5⟩⟩
    obtain ⟨F1, fc1, rfl, hF⟩ := hT
    have HF := Lib.hid hF
    clear hown' hgrow hF hW HO
    go_wp2_with fail
    go_ret
    exact ⟨F1, fc1, rfl, HF.out, hb1⟩
end Go.Proofs.YtihdaemjabhhkaaGreatDoor
