/-
  Vectors in plain Lean: places in order, drawn together.
-/
import Derived.Test.YtionhpangenhnaaDoorVn
namespace Go.Proofs.YtionhpangenhnaaDoor

theorem Rise.snoc {L : List (Int × Rat)} {x : Int × Rat} (h : Rise L) (hx : ∀ y ∈ L, y.1 < x.1) : Rise (L ++ [x]) := by
  unfold Rise at h ⊢
  rw [List.pairwise_append]
  refine ⟨h, List.pairwise_singleton _ _, fun y hy z hz => ?_⟩
  rcases List.mem_cons.1 hz with rfl | hz
  · exact hx y hy
  · cases hz
theorem Rise.front {L : List (Int × Rat)} {x : Int × Rat} (h : Rise (L ++ [x])) : Rise L ∧ ∀ y ∈ L, y.1 < x.1 := by
  unfold Rise at h
  rw [List.pairwise_append] at h
  exact ⟨h.1, fun y hy => h.2.2 y hy x List.mem_cons_self⟩
/-- The terms ts, i of them looked at, drawn together: places in order. -/
structure Grp (out ts : List (Int × Rat)) (i : Nat) : Prop where
  rise : Rise out
  get : ∀ a, pget out a = pget (ts.take i) a
  last : ∀ l, out.getLast? = some l → ∃ t ∈ ts.take i, l.1 = t.1
  len : out.length ≤ i
theorem Grp.start (ts : List (Int × Rat)) : Grp [] ts 0 := ⟨List.Pairwise.nil, fun _ => rfl, (fun l h => (by cases h)), Nat.le_refl _⟩
theorem take_snoc' {α : Type} {L : List α} {i : Nat} {x : α} (h : L[i]? = some x) : L.take (i + 1) = L.take i ++ [x] := by rw [List.take_add_one, h]; rfl
theorem snoc_of_last {α : Type} {L : List α} {l : α} (h : L.getLast? = some l) : ∃ M, L = M ++ [l] := by
  have hne : L ≠ [] := by intro e; subst e; cases h
  rw [List.getLast?_eq_some_getLast hne] at h
  exact ⟨L.dropLast, by rw [← Option.some.inj h]; exact (List.dropLast_concat_getLast hne).symm⟩
theorem Grp.new {out ts : List (Int × Rat)} {i : Nat} {t : Int × Rat} (h : Grp out ts i) (ht : ts[i]? = some t) (hs : ∀ x ∈ ts.take i, x.1 ≤ t.1) (hl : ∀ l, out.getLast? = some l → l.1 ≠ t.1) : Grp (out ++ [t]) ts (i + 1) := by
  refine ⟨h.rise.snoc fun y hy => ?_, fun a => ?_, fun l hl' => ?_, by have := h.len; simp; omega⟩
  · obtain ⟨l, hl'⟩ : ∃ l, out.getLast? = some l := by
      cases e : out.getLast? with
      | none => rw [List.getLast?_eq_none_iff] at e; subst e; cases hy
      | some l => exact ⟨l, rfl⟩
    obtain ⟨M, rfl⟩ := snoc_of_last hl'
    have h1 := hl l hl'
    obtain ⟨u, hu, e⟩ := h.last l hl'
    have h2 := hs u hu
    rcases List.mem_append.1 hy with hy | hy
    · have := (Rise.front h.rise).2 y hy; omega
    · rcases List.mem_cons.1 hy with rfl | hy
      · omega
      · cases hy
  · rw [take_snoc' ht, pget_append, pget_append, h.get]
  · rw [List.getLast?_append] at hl'
    simp at hl'
    subst hl'
    exact ⟨t, by rw [take_snoc' ht]; simp, rfl⟩
theorem Grp.same {out ts : List (Int × Rat)} {i : Nat} {t l : Int × Rat} (h : Grp out ts i) (ht : ts[i]? = some t) (hl : out.getLast? = some l) (e : l.1 = t.1) : Grp (out.set (out.length - 1) (l.1, l.2 + t.2)) ts (i + 1) := by
  obtain ⟨M, rfl⟩ := snoc_of_last hl
  have e1 : (M ++ [l]).set ((M ++ [l]).length - 1) (l.1, l.2 + t.2) = M ++ [(l.1, l.2 + t.2)] := by
    rw [List.set_append_right _ _ (by simp)]
    simp
  rw [e1]
  have hf := Rise.front h.rise
  refine ⟨hf.1.snoc hf.2, fun a => ?_, fun l' hl' => ?_, by have := h.len; simp at this ⊢; omega⟩
  · have := h.get a
    rw [pget_append, pget_one] at this
    rw [take_snoc' ht, pget_append, pget_append, pget_one, pget_one, ← this, ← e]
    simp only
    split
    · rw [Rat.add_assoc]
    · rw [Rat.add_zero, Rat.add_zero]
  · rw [List.getLast?_append] at hl'
    simp at hl'
    subst hl'
    exact ⟨t, by rw [take_snoc' ht]; simp, e⟩
/-- What is 0 struck: the one form. -/
theorem Rise.strike {L : List (Int × Rat)} (h : Rise L) : Nrm (L.filter fun x => decide (x.2 ≠ 0)) := ⟨List.Pairwise.filter _ h, fun x hx => by simpa using (List.mem_filter.1 hx).2⟩
theorem Grp.done {out ts : List (Int × Rat)} {i : Nat} (h : Grp out ts i) (hi : ts.length ≤ i) : nrm ts = out.filter fun x => decide (x.2 ≠ 0) :=
  nrm_eq h.rise.strike fun a => by rw [pget_nz, h.get, List.take_of_length_le hi]
end Go.Proofs.YtionhpangenhnaaDoor
