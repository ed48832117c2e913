/-
  Vectors in plain Lean: places with numbers, what stands at a place, the one form.
-/
import Derived.Sort.Lot0
namespace Go.Proofs.YtionhpangenhnaaDoor

/-- What stands at a place: the sum of all that is there. -/
def pget : List (Int × Rat) → Int → Rat
  | [], _ => 0
  | x :: L, a => if x.1 = a then x.2 + pget L a else pget L a
theorem pget_nil (a : Int) : pget [] a = 0 := rfl
theorem pget_cons (x : Int × Rat) (L : List (Int × Rat)) (a : Int) : pget (x :: L) a = if x.1 = a then x.2 + pget L a else pget L a := rfl
theorem pget_one (x : Int × Rat) (a : Int) : pget [x] a = if x.1 = a then x.2 else 0 := by rw [pget_cons, pget_nil, Rat.add_zero]
theorem pget_append (L M : List (Int × Rat)) (a : Int) : pget (L ++ M) a = pget L a + pget M a := by
  induction L with
  | nil => rw [List.nil_append, pget_nil, Rat.zero_add]
  | cons x L ih =>
    rw [List.cons_append, pget_cons, pget_cons, ih]
    split
    · rw [Rat.add_assoc]
    · rfl
theorem pget_perm {L M : List (Int × Rat)} (h : L.Perm M) (a : Int) : pget L a = pget M a := by
  induction h with
  | nil => rfl
  | cons x _ ih => rw [pget_cons, pget_cons, ih]
  | swap x y L =>
    rw [pget_cons, pget_cons, pget_cons, pget_cons]
    split <;> split <;> (try rfl)
    rw [← Rat.add_assoc, ← Rat.add_assoc, Rat.add_comm y.2]
  | trans _ _ ih1 ih2 => rw [ih1, ih2]
theorem pget_scale (s : Rat) (L : List (Int × Rat)) (a : Int) : pget (L.map fun x => (x.1, s * x.2)) a = s * pget L a := by
  induction L with
  | nil => rw [List.map_nil, pget_nil, Rat.mul_zero]
  | cons x L ih =>
    rw [List.map_cons, pget_cons, pget_cons, ih]
    split
    · rw [Rat.mul_add]
    · rfl
theorem pget_none {L : List (Int × Rat)} {a : Int} (h : ∀ x ∈ L, x.1 ≠ a) : pget L a = 0 := by
  induction L with
  | nil => rfl
  | cons x L ih =>
    rw [pget_cons, if_neg (h x List.mem_cons_self)]
    exact ih fun y hy => h y (List.mem_cons_of_mem _ hy)
theorem pget_drop (L : List (Int × Rat)) (k a : Int) : pget (L.filter fun x => decide (x.1 ≠ k)) a = if a = k then 0 else pget L a := by
  induction L with
  | nil => rw [List.filter_nil, pget_nil]; split <;> rfl
  | cons x L ih =>
    rw [List.filter_cons]
    by_cases h : x.1 = k
    · rw [if_neg (by simp [h]), ih, pget_cons]
      split
      · rfl
      · rw [if_neg (by omega)]
    · rw [if_pos (by simp [h]), pget_cons, pget_cons, ih]
      by_cases h2 : x.1 = a
      · rw [if_pos h2, if_neg (show ¬ a = k by omega), if_neg (show ¬ a = k by omega), if_pos h2]
      · rw [if_neg h2, if_neg h2]
theorem pget_nz (L : List (Int × Rat)) (a : Int) : pget (L.filter fun x => decide (x.2 ≠ 0)) a = pget L a := by
  induction L with
  | nil => rfl
  | cons x L ih =>
    rw [List.filter_cons]
    by_cases h : x.2 = 0
    · rw [if_neg (by simp [h]), ih, pget_cons, h, Rat.zero_add]
      split <;> rfl
    · rw [if_pos (by simp [h]), pget_cons, pget_cons, ih]
/-- Places rise, none twice. -/
def Rise (L : List (Int × Rat)) : Prop := L.Pairwise fun x y => x.1 < y.1
/-- The one form. -/
structure Nrm (L : List (Int × Rat)) : Prop where
  rise : Rise L
  nz : ∀ x ∈ L, x.2 ≠ 0
theorem Rise.cons {x : Int × Rat} {L : List (Int × Rat)} : Rise (x :: L) ↔ (∀ y ∈ L, x.1 < y.1) ∧ Rise L := List.pairwise_cons
theorem Nrm.tail {x : Int × Rat} {L : List (Int × Rat)} (h : Nrm (x :: L)) : Nrm L := ⟨(Rise.cons.1 h.rise).2, fun y hy => h.nz y (List.mem_cons_of_mem _ hy)⟩
theorem Rise.head {x : Int × Rat} {L : List (Int × Rat)} (h : Rise (x :: L)) : pget (x :: L) x.1 = x.2 := by
  rw [pget_cons, if_pos rfl, pget_none (fun y hy => by have := (Rise.cons.1 h).1 y hy; omega), Rat.add_zero]
theorem Rise.low {x : Int × Rat} {L : List (Int × Rat)} (h : Rise (x :: L)) {a : Int} (ha : a < x.1) : pget (x :: L) a = 0 :=
  pget_none fun y hy => by
    rcases List.mem_cons.1 hy with rfl | hy
    · omega
    · have := (Rise.cons.1 h).1 y hy; omega
theorem Rise.get {L : List (Int × Rat)} (h : Rise L) {x : Int × Rat} (hx : x ∈ L) : pget L x.1 = x.2 := by
  induction L with
  | nil => cases hx
  | cons y L ih =>
    rcases List.mem_cons.1 hx with rfl | hx
    · exact h.head
    · rw [pget_cons, if_neg (by have := (Rise.cons.1 h).1 x hx; omega)]
      exact ih (Rise.cons.1 h).2 hx
theorem Nrm.ext {L M : List (Int × Rat)} (hL : Nrm L) (hM : Nrm M) (h : ∀ a, pget L a = pget M a) : L = M := by
  induction L generalizing M with
  | nil =>
    cases M with
    | nil => rfl
    | cons y M => have := h y.1; rw [hM.rise.head, pget_nil] at this; exact absurd this.symm (hM.nz y List.mem_cons_self)
  | cons x L ih =>
    cases M with
    | nil => have := h x.1; rw [hL.rise.head, pget_nil] at this; exact absurd this (hL.nz x List.mem_cons_self)
    | cons y M =>
      have e1 : x.1 = y.1 := by
        rcases Int.lt_trichotomy x.1 y.1 with h1 | h1 | h1
        · have := h x.1; rw [hL.rise.head, hM.rise.low h1] at this; exact absurd this (hL.nz x List.mem_cons_self)
        · exact h1
        · have := h y.1; rw [hM.rise.head, hL.rise.low h1] at this; exact absurd this.symm (hM.nz y List.mem_cons_self)
      have e2 : x.2 = y.2 := by
        have := h x.1
        rw [hL.rise.head, e1, hM.rise.head] at this
        exact this
      obtain rfl : x = y := Prod.ext e1 e2
      congr 1
      refine ih hL.tail hM.tail fun a => ?_
      by_cases ha : x.1 = a
      · subst ha
        rw [pget_none (fun z hz => by have := (Rise.cons.1 hL.rise).1 z hz; omega), pget_none (fun z hz => by have := (Rise.cons.1 hM.rise).1 z hz; omega)]
      · have := h a
        rwa [pget_cons, pget_cons, if_neg ha, if_neg ha] at this
/-- One more put in. -/
def pins (a : Int) (q : Rat) : List (Int × Rat) → List (Int × Rat)
  | [] => if q = 0 then [] else [(a, q)]
  | x :: L => if a < x.1 then (if q = 0 then x :: L else (a, q) :: x :: L) else if a = x.1 then (if q + x.2 = 0 then L else (a, q + x.2) :: L) else x :: pins a q L
/-- The one form of what stands where. -/
def nrm : List (Int × Rat) → List (Int × Rat)
  | [] => []
  | x :: L => pins x.1 x.2 (nrm L)
theorem pins_ge {a b : Int} {q : Rat} {L : List (Int × Rat)} (ha : b < a) (h : ∀ y ∈ L, b < y.1) : ∀ y ∈ pins a q L, b < y.1 := by
  induction L with
  | nil =>
    intro y hy
    unfold pins at hy
    split at hy
    · cases hy
    · rcases List.mem_cons.1 hy with rfl | hy
      · exact ha
      · cases hy
  | cons x L ih =>
    intro y hy
    unfold pins at hy
    split at hy
    · split at hy
      · exact h y hy
      · rcases List.mem_cons.1 hy with rfl | hy
        · exact ha
        · exact h y hy
    · split at hy
      · split at hy
        · exact h y (List.mem_cons_of_mem _ hy)
        · rcases List.mem_cons.1 hy with rfl | hy
          · exact ha
          · exact h y (List.mem_cons_of_mem _ hy)
      · rcases List.mem_cons.1 hy with rfl | hy
        · exact h y List.mem_cons_self
        · exact ih (fun z hz => h z (List.mem_cons_of_mem _ hz)) y hy
theorem pins_nrm {a : Int} {q : Rat} {L : List (Int × Rat)} (h : Nrm L) : Nrm (pins a q L) := by
  induction L with
  | nil =>
    unfold pins
    split
    · exact h
    · rename_i hq
      exact ⟨List.pairwise_singleton _ _, fun x hx => by rcases List.mem_cons.1 hx with rfl | hx; exact hq; cases hx⟩
  | cons x L ih =>
    have hc := Rise.cons.1 h.rise
    unfold pins
    split
    · rename_i h1
      split
      · exact h
      · rename_i hq
        refine ⟨Rise.cons.2 ⟨fun y hy => ?_, h.rise⟩, fun y hy => ?_⟩
        · rcases List.mem_cons.1 hy with rfl | hy
          · exact h1
          · have := hc.1 y hy; simp only; omega
        · rcases List.mem_cons.1 hy with rfl | hy
          · exact hq
          · exact h.nz y hy
    · rename_i h1
      split
      · rename_i h2
        split
        · exact h.tail
        · rename_i hq
          refine ⟨Rise.cons.2 ⟨fun y hy => by have := hc.1 y hy; simp only; omega, hc.2⟩, fun y hy => ?_⟩
          rcases List.mem_cons.1 hy with rfl | hy
          · exact hq
          · exact h.nz y (List.mem_cons_of_mem _ hy)
      · rename_i h2
        have hi := ih h.tail
        refine ⟨Rise.cons.2 ⟨pins_ge (by omega) hc.1, hi.rise⟩, fun y hy => ?_⟩
        rcases List.mem_cons.1 hy with rfl | hy
        · exact h.nz y List.mem_cons_self
        · exact hi.nz y hy
theorem pins_get (a : Int) (q : Rat) (L : List (Int × Rat)) (b : Int) : pget (pins a q L) b = pget ((a, q) :: L) b := by
  induction L with
  | nil =>
    unfold pins
    split
    · rename_i h; subst h; rw [pget_cons, pget_nil, Rat.zero_add]; split <;> rfl
    · rfl
  | cons x L ih =>
    unfold pins
    split
    · split
      · rename_i h; subst h; rw [pget_cons, pget_cons, pget_cons]; simp only [Rat.zero_add, ite_self]
      · rfl
    · split
      · rename_i h2
        split
        · rename_i h3
          rw [pget_cons, pget_cons]
          simp only
          split
          · rw [if_pos (by omega), ← Rat.add_assoc, h3, Rat.zero_add]
          · rw [if_neg (by omega)]
        · rw [pget_cons, pget_cons, pget_cons]
          simp only
          split
          · rw [if_pos (by omega), Rat.add_assoc]
          · rw [if_neg (by omega)]
      · rename_i h2
        rw [pget_cons, ih, pget_cons, pget_cons, pget_cons]
        simp only
        split
        · rw [if_neg (by omega), if_neg (by omega)]
        · rfl
theorem nrm_nrm (L : List (Int × Rat)) : Nrm (nrm L) := by
  induction L with
  | nil => exact ⟨List.Pairwise.nil, fun x hx => by cases hx⟩
  | cons x L ih => exact pins_nrm ih
theorem nrm_get (L : List (Int × Rat)) (a : Int) : pget (nrm L) a = pget L a := by
  induction L with
  | nil => rfl
  | cons x L ih => unfold nrm; rw [pins_get, pget_cons, pget_cons, ih]
theorem nrm_ext {L M : List (Int × Rat)} (h : ∀ a, pget L a = pget M a) : nrm L = nrm M := (nrm_nrm L).ext (nrm_nrm M) fun a => by rw [nrm_get, nrm_get, h]
theorem nrm_eq {L M : List (Int × Rat)} (hM : Nrm M) (h : ∀ a, pget L a = pget M a) : nrm L = M := (nrm_nrm L).ext hM fun a => by rw [nrm_get, h]
theorem nrm_iff {L M : List (Int × Rat)} : nrm L = nrm M ↔ ∀ a, pget L a = pget M a := ⟨fun h a => by rw [← nrm_get L, h, nrm_get], nrm_ext⟩
theorem Nrm.self {L : List (Int × Rat)} (h : Nrm L) : nrm L = L := nrm_eq h fun _ => rfl
theorem pins_len (a : Int) (q : Rat) (L : List (Int × Rat)) : (pins a q L).length ≤ L.length + 1 := by
  induction L with
  | nil => unfold pins; split <;> simp
  | cons x L ih =>
    unfold pins
    split
    · split <;> simp
    · split
      · split <;> simp <;> omega
      · simp only [List.length_cons]; omega
theorem nrm_len (L : List (Int × Rat)) : (nrm L).length ≤ L.length := by
  induction L with
  | nil => exact Nat.le_refl _
  | cons x L ih => unfold nrm; have := pins_len x.1 x.2 (nrm L); simp only [List.length_cons]; omega
/-- The sum of the products at all places. -/
def pdot (L M : List (Int × Rat)) : Rat := L.foldr (fun x s => x.2 * pget M x.1 + s) 0
theorem pdot_nil (M : List (Int × Rat)) : pdot [] M = 0 := rfl
theorem pdot_cons (x : Int × Rat) (L M : List (Int × Rat)) : pdot (x :: L) M = x.2 * pget M x.1 + pdot L M := rfl
theorem pdot_congr {M M' : List (Int × Rat)} (h : ∀ a, pget M a = pget M' a) (L : List (Int × Rat)) : pdot L M = pdot L M' := by
  induction L with
  | nil => rfl
  | cons x L ih => rw [pdot_cons, pdot_cons, ih, h]
theorem pdot_nil_right (L : List (Int × Rat)) : pdot L [] = 0 := by
  induction L with
  | nil => rfl
  | cons x L ih => rw [pdot_cons, ih, pget_nil, Rat.mul_zero, Rat.add_zero]
theorem pdot_cons_right (L : List (Int × Rat)) (y : Int × Rat) (M : List (Int × Rat)) : pdot L (y :: M) = pget L y.1 * y.2 + pdot L M := by
  induction L with
  | nil => rw [pdot_nil, pdot_nil, pget_nil, Rat.zero_mul, Rat.zero_add]
  | cons x L ih =>
    rw [pdot_cons, pdot_cons, ih, pget_cons, pget_cons]
    by_cases h : y.1 = x.1
    · rw [if_pos h, if_pos h.symm]; grind
    · rw [if_neg h, if_neg (fun e => h e.symm)]; grind
theorem pdot_comm (L M : List (Int × Rat)) : pdot L M = pdot M L := by
  induction L with
  | nil => rw [pdot_nil, pdot_nil_right]
  | cons x L ih => rw [pdot_cons, pdot_cons_right, ih, Rat.mul_comm]
theorem pdot_congr_left {L L' : List (Int × Rat)} (h : ∀ a, pget L a = pget L' a) (M : List (Int × Rat)) : pdot L M = pdot L' M := by rw [pdot_comm L, pdot_comm L', pdot_congr h]
theorem pdot_append (L L' M : List (Int × Rat)) : pdot (L ++ L') M = pdot L M + pdot L' M := by
  induction L with
  | nil => rw [List.nil_append, pdot_nil, Rat.zero_add]
  | cons x L ih => rw [List.cons_append, pdot_cons, pdot_cons, ih, Rat.add_assoc]
theorem pdot_scale (s : Rat) (L M : List (Int × Rat)) : pdot (L.map fun x => (x.1, s * x.2)) M = s * pdot L M := by
  induction L with
  | nil => rw [List.map_nil, pdot_nil, Rat.mul_zero]
  | cons x L ih => rw [List.map_cons, pdot_cons, pdot_cons, ih, Rat.mul_add, Rat.mul_assoc]
theorem pdot_nrm (L M : List (Int × Rat)) : pdot (nrm L) M = pdot L M := pdot_congr_left (nrm_get L) M
theorem pdot_nrm_right (L M : List (Int × Rat)) : pdot L (nrm M) = pdot L M := pdot_congr (nrm_get M) L
end Go.Proofs.YtionhpangenhnaaDoor
