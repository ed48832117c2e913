/-
  Regions that draw their order: one schedule serves every order. An operation that yields one value in every world that meets S is taken as soon as it may come up; a call, an alloc, a store comes up alone.
-/
import Derived.Test.YtjlfcnkndndgaaaDoorRows
import Derived.WalkKit
import Derived.Deep.RegionHeld3
import Derived.Lib.Hide
namespace Go.Proofs.YtjlfcnkndndgaaaDoor
open Go.RowKit

section
variable {P : Program} {ops : Array Oper} {Q : Exit → Act → World → Prop} {md : Region.Mode} {S : World → Prop}

/-- Is the row of numbers a schedule of the region? Those marked 'true' come up alone. -/
def schedOk (md : Region.Mode) (ops : Array Oper) : List (Nat × Bool) → Array Bool → Bool
  | [], listed => Region.ready md ops listed == []
  | (i, true) :: rest, listed => (Region.ready md ops listed == [i]) && schedOk md ops rest (listed.setIfInBounds i true)
  | (i, false) :: rest, listed => (Region.ready md ops listed).contains i && Region.free md ops listed i && schedOk md ops rest (listed.setIfInBounds i true)

/-- The walk of the schedule. -/
def wpSched (P : Program) (ops : Array Oper) (Q : Exit → Act → World → Prop) (S : World → Prop) : List (Nat × Bool) → Act → World → Prop
  | [], a, w => Q .normal a w
  | (i, true) :: rest, a, w => wpOp P ops Q i (fun a' w' => S w' ∧ wpSched P ops Q S rest a' w') a w
  | (i, false) :: rest, a, w => ∃ o v, ops[i]? = some o ∧ YieldsIf P ops S o v a ∧ wpSched P ops Q S rest (a.put o.dst v) w

theorem wpAnyH_sched (hs : Region.noSelect ops = true) (hQ : ∀ c a w, ¬ Q (.panic c) a w) : ∀ (l : List (Nat × Bool)) (listed : Array Bool) (a : Act) (w : World), schedOk md ops l listed = true → S w →
    wpSched P ops Q S l a w → wpAnyH P md ops Q S l.length listed a w
  | [], _, _, _, hB, _, h => ⟨by simpa [schedOk] using hB, h⟩
  | (i, true) :: rest, listed, a, w, hB, _, h => by
    simp only [schedOk, Bool.and_eq_true, beq_iff_eq] at hB
    refine ⟨fun h0 => (by rw [hB.1] at h0; cases h0), fun j hj => ?_⟩
    rw [hB.1] at hj
    obtain rfl : j = i := by simpa using hj
    exact wpOp_mono (fun a' w' h' => ⟨h'.1, wpAnyH_sched hs hQ rest _ a' w' hB.2 h'.1 h'.2⟩) h
  | (i, false) :: rest, listed, a, w, hB, hS, h => by
    simp only [schedOk, Bool.and_eq_true] at hB
    obtain ⟨o, v, ho, hy, h⟩ := h
    exact wpAnyH_take ho hs hB.1.2 hB.1.1 (fun c a w h => absurd h (hQ c _ w)) hy hS (wpAnyH_sched hs hQ rest _ _ w hB.2 hS h)

/-- A region by its schedule; it is shown not to panic. -/
theorem wp_region_sched {id : Nat} {a : Act} {w : World} {l : List Oper} (s : List (Nat × Bool)) (S : World → Prop) (hm : P.follows .mixedOrders = true)
    (hB : (Region.noSelect l.toArray && (s.length == l.toArray.size) && schedOk .any l.toArray s (Array.replicate l.toArray.size false)) = true) (hS : S w.drew)
    (h : wpSched P l.toArray (NoPanic Q) S s a w.drew) : (Code.region id l.toArray true).wp P Q a w := by
  simp only [Bool.and_eq_true, beq_iff_eq] at hB
  refine wp_region_noPanic (wp_region_held_drew (S := S) hm hS fun _ => ?_)
  have := wpAnyH_sched (md := .any) (P := P) (Q := NoPanic Q) (S := S) hB.1.1 (fun _ _ _ h => h) s (Array.replicate l.toArray.size false) a w.drew hB.2 hS h
  rw [hB.1.2] at this
  exact this

variable {a : Act} {w : World} {rest : List (Nat × Bool)} {i : Nat} {o : Oper} {v : Value}
theorem wpSched_done (h : Q .normal a w) : wpSched P ops (NoPanic Q) S [] a w := h
theorem wpSched_take (hi : ops[i]? = some o) (hw : Region.wanted o (yielded ops a.tmps) = true) (hy : ∀ w, S w → (execOp a.eval o).run P w = .ok (.value v) w)
    (h : wpSched P ops Q S rest (a.put o.dst v) w) : wpSched P ops Q S ((i, false) :: rest) a w := ⟨o, v, hi, .inl ⟨hw, hy⟩, h⟩
theorem wpSched_skip (hi : ops[i]? = some o) (hw : Region.wanted o (yielded ops a.tmps) = false)
    (h : wpSched P ops Q S rest (a.put o.dst undef) w) : wpSched P ops Q S ((i, false) :: rest) a w := ⟨o, undef, hi, .inr ⟨hw, rfl⟩, h⟩
theorem wpSched_pass (hi : ops[i]? = some o) (hw : Region.wanted o (yielded ops a.tmps) = false) (hS : S w)
    (h : wpSched P ops Q S rest (a.put o.dst undef) w) : wpSched P ops Q S ((i, true) :: rest) a w := by
  show wpOp P ops Q i _ a w
  unfold wpOp
  simp only [hi, hw, Bool.false_eq_true, if_false]
  exact ⟨hS, h⟩
/-- What follows stands behind a variable. -/
theorem wpSched_call (hi : ops[i]? = some o) (hw : Region.wanted o (yielded ops a.tmps) = true)
    (h : ∀ K : Act → World → Prop, Hid (∀ a' w', S w' → (S w' → wpSched P ops Q S rest a' w') → K a' w') → o.wp P a w K Q) : wpSched P ops Q S ((i, true) :: rest) a w := by
  show wpOp P ops Q i _ a w
  unfold wpOp
  simp only [hi, hw, if_true]
  exact .inl (h _ (Lib.hid fun a' w' hS hr => ⟨hS, hr hS⟩))
end
end Go.Proofs.YtjlfcnkndndgaaaDoor
