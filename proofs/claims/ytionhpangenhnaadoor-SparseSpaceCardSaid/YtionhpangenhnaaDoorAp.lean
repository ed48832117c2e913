/-
  Rows that lie apart.
-/
import Derived.Test.YtionhpangenhnaaDoorApp
namespace Go.Proofs.YtionhpangenhnaaDoor
open Go.RowKit Tw

theorem cell_al {w : World} {p : Addr} {v : Value} {o : Obj} (h : w.cell? p = some v) : (w.alloc o).cell? p = some v := ((lit_below w o).cell (World.block_lt_of_cell? w p h)).trans h
/-- Two rows that lie apart. -/
def Ap (u v : Value) : Prop := u.ownBlock = none ∨ u.ownBlock ≠ v.ownBlock
theorem Ap.symm {u v : Value} (h : Ap u v) : Ap v u := by
  cases e : v.ownBlock with
  | none => exact .inl e
  | some g =>
    refine .inr (fun h2 => ?_)
    rcases h with h | h
    · rw [h, e] at h2; cases h2
    · exact h h2.symm
theorem Ap.nil (v : Value) : Ap (.slice none 0 0) v := .inl rfl
theorem Grew.ap {w w' : World} {v v' u : Value} {B n k : Nat} {e : TypeId} {xs : List Value} (hg : Grew w w' v v') (hu : OwnR w B e k u n xs) (h : Ap u v) : Ap u v' := by
  rcases h with h | h
  · exact .inl h
  · refine .inr (fun e2 => ?_)
    rcases hg.new with h2 | ⟨g, h2, h3⟩
    · rw [h2] at e2; exact h e2
    · rw [h2] at e2; have := hu.lt g e2; omega
theorem OwnR.far {w W : World} {B n size b : Nat} {e : TypeId} {v : Value} {xs : List Value} (ho : OwnR w B e size v n xs) (far : ∀ b' cs t', b' ≠ b → Bx w b' cs t' → Bx W b' cs t') (hb : b < B) : OwnR W B e size v n xs := by
  obtain ⟨h1, h2 | ⟨g, cap, cur, rfl, a2, a3, a4⟩⟩ := ho
  · exact ⟨h1, .inl h2⟩
  · exact ⟨h1, .inr ⟨g, cap, cur, rfl, a2, far g cur e (by omega) a3, a4⟩⟩
end Go.Proofs.YtionhpangenhnaaDoor
