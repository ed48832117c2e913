/-
  The library's heap over a queue's items: up and down.
-/
import Derived.Test.YtihdaemjabhhkaaGreatDoorQu2
import Derived.Deep.LoopGhost
namespace Go.Proofs.YtihdaemjabhhkaaGreatDoor
open Go.RowKit Tw Hp

/-- All bounds are read, and short. -/
def OkL (w : World) (L : List Itm) : Prop := ∀ x ∈ L, R w x.s x.A x.c x.l x.s' x.A' x.c' x.l' x.q 20
/-- The pointer to the queue's row, and the row. -/
structure HQ (w : World) (qb g cap n : Nat) (L : List Itm) : Prop where
  cell : w.cell? ⟨qb, 1, none⟩ = some (.slice (some ⟨g, 0, none⟩) n cap)
  row : HRow w g cap L
  len : L.length = n
  ne : qb ≠ g
  ok : OkL w L
  small : n ≤ 2000000
/-- Digits stay; of what was there, but for block g, all stays. -/
def Sh (w w' : World) (g : Nat) : Prop := K64 w w' ∧ w.grownBy w' (some g)
theorem Sh.refl (w : World) (g : Nat) : Sh w w g := ⟨K64.refl w, grownBy_refl w _⟩
theorem Sh.trans {a b c : World} {g : Nat} (h : Sh a b g) (k : Sh b c g) : Sh a c g := ⟨h.1.trans k.1, grown_trans h.2 k.2⟩
theorem Sh.of_below {w w' : World} {g : Nat} (h : Below w.heap.size w w') : Sh w w' g := ⟨K64.below h, grown_below h _⟩
section
variable {w w' : World} {qb g cap n : Nat} {L L' : List Itm}
theorem OkL.k (h : OkL w L) (k : K64 w w') : OkL w' L := fun x hx => (h x hx).k k
theorem OkL.perm (h : OkL w L) (p : L'.Perm L) : OkL w L' := fun x hx => h x (p.mem_iff.1 hx)
theorem HQ.below (h : HQ w qb g cap n L) (hb : Below w.heap.size w w') : HQ w' qb g cap n L :=
  ⟨(hb.cell (World.block_lt_of_cell? w _ h.cell)).trans h.cell, h.row.below hb, h.len, h.ne, h.ok.k (K64.below hb), h.small⟩
theorem HQ.swapped (h : HQ w qb g cap n L) (hr : HRow w' g cap L') (s : Sh w w' g) (p : L'.Perm L) : HQ w' qb g cap n L' :=
  ⟨s.2.cell h.cell (by simpa using h.ne), hr, p.length_eq.trans h.len, h.ne, (h.ok.k s.1).perm p, h.small⟩
theorem HQ.r (h : HQ w qb g cap n L) {i : Nat} (hi : i < n) {a : Itm} (ha : ix L i = a) : R w a.s a.A a.c a.l a.s' a.A' a.c' a.l' a.q 20 := by
  have hi' : i < L.length := by rw [h.len]; exact hi
  have := h.ok (ix L i) (by rw [ix_get hi']; exact List.getElem_mem hi')
  rw [ha] at this
  exact this
end
theorem cmpQ_neg (a b : Rat) : decide (cmpQ a b < 0) = decide (a < b) := by
  unfold cmpQ
  split
  · rename_i h; simp [h]
  · rename_i h; rw [decide_eq_false h]; split <;> rfl
theorem cmpQ_eq (a b : Rat) : cmpQ a b = 0 ↔ a = b := by
  have h := cmpQ_zero a b
  rw [Bool.eq_iff_iff, beq_iff_eq, decide_eq_true_eq] at h
  exact h
theorem rat_tri (a b : Rat) : a < b ∨ a = b ∨ b < a := by
  by_cases h : a < b
  · exact .inl h
  · rcases Rat.le_iff_eq_or_lt.1 (Rat.not_lt.1 h) with e | e
    · exact .inr (.inr e)
    · exact .inr (.inl e.symm)
theorem itLt_iff (a b : Itm) : itLt a b = true ↔ a.q < b.q ∨ (a.q = b.q ∧ (b.dep < a.dep ∨ (a.dep = b.dep ∧ (a.num < b.num ∨ (a.num = b.num ∧ a.turn < b.turn))))) := by
  unfold itLt
  by_cases h1 : a.q = b.q
  · rw [if_neg (by rw [Ne, cmpQ_eq]; simpa using h1)]
    have : ¬ a.q < b.q := by rw [h1]; exact Rat.lt_irrefl
    by_cases h2 : a.dep = b.dep
    · rw [if_neg (by simpa using h2)]
      by_cases h3 : a.num = b.num
      · rw [if_neg (by simpa using h3)]; simp [h1, h2, h3, Rat.lt_irrefl]
      · rw [if_pos h3]; simp [h1, h2, h3, Rat.lt_irrefl]
    · rw [if_pos h2]; simp [h1, h2, Rat.lt_irrefl]
  · rw [if_pos (by rw [Ne, cmpQ_eq]; exact h1), cmpQ_neg]; simp [h1]
theorem rat_lt_trans {a b c : Rat} (h : a < b) (k : b < c) : a < c := by grind
theorem swo_it : Swo itLt := by
  have asym : ∀ a b, itLt a b = true → itLt b a = false := fun a b h => by
    rw [Bool.eq_false_iff, Ne, itLt_iff]
    rw [itLt_iff] at h
    intro k
    grind
  refine ⟨fun a => ?_, fun a b c h k => ?_, asym⟩
  · rw [Bool.eq_false_iff, Ne, itLt_iff]; intro k; grind
  · rw [Bool.eq_false_iff, Ne, itLt_iff] at *
    grind
/-- A method of the row, asked for through the heap's interface. -/
theorem m_less (a : Addr) (w : World) (v : Value) (h : w.cell? a = some v) : (method 336 112 (.pointer (some a)) "Less").run Tryz.prog w = .ok (246, v) w := by
  have e : (method 336 112 (.pointer (some a)) "Less").run Tryz.prog w = ((load a).bind fun v => Sem.pure (246, v)).run Tryz.prog w := by kernel_rfl
  rw [e]
  first | (go_simp; done) | simp [load, Sem.bind, Sem.run, h]
theorem m_swap (a : Addr) (w : World) (v : Value) (h : w.cell? a = some v) : (method 336 112 (.pointer (some a)) "Swap").run Tryz.prog w = .ok (247, v) w := by
  have e : (method 336 112 (.pointer (some a)) "Swap").run Tryz.prog w = ((load a).bind fun v => Sem.pure (247, v)).run Tryz.prog w := by kernel_rfl
  rw [e]
  first | (go_simp; done) | simp [load, Sem.bind, Sem.run, h]
theorem m_len (a : Addr) (w : World) (v : Value) (h : w.cell? a = some v) : (method 336 112 (.pointer (some a)) "Len").run Tryz.prog w = .ok (245, v) w := by
  have e : (method 336 112 (.pointer (some a)) "Len").run Tryz.prog w = ((load a).bind fun v => Sem.pure (245, v)).run Tryz.prog w := by kernel_rfl
  rw [e]
  first | (go_simp; done) | simp [load, Sem.bind, Sem.run, h]
/-- The calls, told of the queue. -/
theorem less_x {w : World} {qb g cap n i j : Nat} {L : List Itm} {a b : Itm} (h : HQ w qb g cap n L) (hi : i < n) (hj : j < n) (ha : ix L i = a) (hb : ix L j = b) (x y : Int) (hx : (i : Int) = x) (hy : (j : Int) = y) (t : Bool) (ht : itLt a b = t) :
    Calls Tryz.prog 246 #[.slice (some ⟨g, 0, none⟩) n cap, .int .i64 x, .int .i64 y] w fun e w' => e = .returned (.bool t) ∧ Below w.heap.size w w' := by
  subst hx hy
  exact less_q (h.row.it (by rw [h.len]; exact hi) ha) (h.row.it (by rw [h.len]; exact hj) hb) (h.r hi ha) (h.r hj hb) (by omega) hi hj t ht
theorem swap_x {w : World} {qb g cap n i j : Nat} {L : List Itm} (h : HQ w qb g cap n L) (hi : i < n) (hj : j < n) (x y : Int) (hx : (i : Int) = x) (hy : (j : Int) = y) :
    Calls Tryz.prog 247 #[.slice (some ⟨g, 0, none⟩) n cap, .int .i64 x, .int .i64 y] w fun e w' => e = .returned (.tuple #[]) ∧ HQ w' qb g cap n (swp L i j) ∧ Sh w w' g := by
  subst hx hy
  have hi' : i < L.length := by rw [h.len]; exact hi
  have hj' : j < L.length := by rw [h.len]; exact hj
  exact (swap_q h.row h.len hi' hj' (Lib.hid rfl) (Lib.hid rfl)).mono fun e w' ⟨he, hr, hk, hg⟩ => ⟨he, h.swapped hr ⟨hk, hg⟩ (swp_perm L hi' hj'), hk, hg⟩
/-- A state of the loop of up. -/
def UpS (w : World) (qb g cap n : Nat) (L : List Itm) (k : Nat) (sj : Value) (wr : World) : Prop :=
  sj = .int .i64 (k : Int) ∧ k < n ∧ ∃ L', L'.Perm L ∧ UpInv itLt L' k ∧ HQ wr qb g cap n L' ∧ Sh w wr g
/-- A heap again. -/
def UpEnd (w : World) (qb g cap n : Nat) (L : List Itm) (e : Ending) (w' : World) : Prop :=
  e = .returned (.tuple #[]) ∧ ∃ L', L'.Perm L ∧ Heap itLt L' n ∧ HQ w' qb g cap n L' ∧ Sh w w' g
set_option maxRecDepth 100000 in
set_option maxHeartbeats 4000000 in
theorem up_q {w : World} {qb g cap n j : Nat} {L : List Itm} (h : HQ w qb g cap n L) (hu : UpInv itLt L j) (hj : j < n) :
    Calls Tryz.prog 119 #[.iface 112 (.pointer (some ⟨qb, 1, none⟩)), .int .i64 (j : Int)] w (UpEnd w qb g cap n L) := by
  have H := Lib.hid h
  have HU := Lib.hid hu
  have hsm := h.small
  clear h hu
  go_enter Tryz.func119, Tryz.ntmps119
  go_wp2_with fail
  go_loopg [1] j (fun gk sj wr => UpS w qb g cap n L gk sj wr)
  case atStart => exact ⟨rfl, hj, L, List.Perm.refl _, HU.out, H.out, Sh.refl w g⟩
  case round =>
    clear HU H hj
    obtain ⟨rfl, hk, L1, hp, hu, hq, hs⟩ := hrel
    have HP := Lib.hid hp
    have HU := Lib.hid hu
    have H := Lib.hid hq
    have HS := Lib.hid hs
    clear hp hu hq hs
    rcases Nat.eq_zero_or_pos gk with rfl | h0
    · go_wp2_with fail
      go_end0
      exact ⟨rfl, L1, HP.out, by rw [← H.out.len]; exact HU.out.done (.inl rfl), H.out, HS.out⟩
    · obtain ⟨m, rfl⟩ : ∃ m, gk = m + 1 := ⟨gk - 1, by omega⟩
      obtain ⟨p, hpm⟩ : ∃ p, p = m / 2 := ⟨_, rfl⟩
      have e1 : ((m : Int) / 2) = (p : Int) := by omega
      have hpp : par (m + 1) = p := by unfold par; omega
      have hpn : p < n := by omega
      have g1 : ((p : Int) == (m : Int) + 1) = false := by simp; omega
      obtain ⟨a, ha⟩ : ∃ a, ix L1 (m + 1) = a := ⟨_, rfl⟩
      obtain ⟨b, hb⟩ : ∃ b, ix L1 p = b := ⟨_, rfl⟩
      have HA := Lib.hid ha
      have HB := Lib.hid hb
      have HPP := Lib.hid hpp
      have HPM := Lib.hid hpm
      have c1 := H.out.cell
      have m1 := m_less ⟨qb, 1, none⟩ wr _ c1
      have x1 : ((m + 1 : Nat) : Int) = (m : Int) + 1 := by omega
      have HX1 := Lib.hid x1
      have hm1 : m + 1 < n := hk
      clear ha hb hpp hpm h0 x1
      cases hlt : itLt a b
      · have HL := Lib.hid hlt
        clear hlt
        go_wp2_with fail
        with_reducible refine (less_x H.out hm1 hpn HA.out HB.out _ _ HX1.out rfl false HL.out).mono ?_
        rintro e w1 ⟨rfl, b1⟩
        go_wp2_with fail
        go_end0
        exact ⟨rfl, L1, HP.out, by rw [← H.out.len]; exact HU.out.done (.inr (by rw [HPP.out, HA.out, HB.out]; exact HL.out)), H.out.below b1, HS.out.trans (Sh.of_below b1)⟩
      · have HL := Lib.hid hlt
        clear hlt
        go_wp2_with fail
        with_reducible refine (less_x H.out hm1 hpn HA.out HB.out _ _ HX1.out rfl true HL.out).mono ?_
        rintro e w1 ⟨rfl, b1⟩
        have H1 := Lib.hid (H.out.below b1)
        have c1 := H1.out.cell
        have m2 := m_swap ⟨qb, 1, none⟩ w1 _ c1
        clear m1
        go_wp2_with fail
        with_reducible refine (swap_x H1.out hpn hm1 _ _ rfl HX1.out).mono ?_
        rintro e w2 ⟨rfl, h2, s2⟩
        have H2 := Lib.hid h2
        have S2 := Lib.hid s2
        clear h2 s2 c1 m2
        go_wp2_with fail
        go_roundg p
        case measure => have := HPM.out; omega
        case rel =>
          refine ⟨rfl, hpn, _, (swp_perm L1 (by rw [H.out.len]; exact hpn) (by rw [H.out.len]; exact hm1)).trans HP.out, ?_, H2.out, (HS.out.trans (Sh.of_below b1)).trans S2.out⟩
          have := HU.out.step swo_it (by omega) (by rw [H.out.len]; exact hm1) (by rw [HPP.out, HA.out, HB.out]; exact HL.out)
          rw [HPP.out] at this
          exact this
end Go.Proofs.YtihdaemjabhhkaaGreatDoor
