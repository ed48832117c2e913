/-
  slices.SortStableFunc over rows of structs: symMerge whole, the sort. Written by wip/gen/st.py.
-/
import Derived.Test.YtidjjejgbahcgaaGreatDoorYVn
import Derived.Deep.DeepCutAuto
import Derived.Deep.LoopGhost
import Derived.IntWalk
import Derived.Lib.Hide
import Derived.Shelf.SlSortCmp.KitK
import Derived.Sort.LotA
import Derived.Sort.WalkB12
import Derived.Sort.WalkB2
import Derived.Test.YtidjjejgbahcgaaGreatDoorProg
namespace Go.Proofs.YtidjjejgbahcgaaGreatDoor
open Go.Shelf Go.RowKit Go.Lib Go.Sort
variable {P:Program} {α:Type} [Inhabited α] {k:Nat}
theorem SortedIn.kept {lt:α→α→Bool} {d d':Array α} {a m lo hi:Nat} (p:PermIn a m d d') (h:m≤lo) (hs:SortedIn lt lo hi d):SortedIn lt lo hi d':=fun i j h1 h2 h3=>by
 rw[p.2.1 i (.inr zo),p.2.1 j (.inr zo)];exact hs i j h1 h2 h3
inductive Runs (lt:α→α→Bool) (bs n:Nat) (d:Array α):Nat→Prop
 | done {lo:Nat}:n≤lo→Runs lt bs n d lo
 | more {lo:Nat}:SortedIn lt lo (min (lo+bs) n) d→Runs lt bs n d (lo+bs)→Runs lt bs n d lo
inductive Upto (lt:α→α→Bool) (bs:Nat) (d:Array α):Nat→Prop
 | zero:Upto lt bs d 0
 | step {a:Nat}:Upto lt bs d a→SortedIn lt a (a+bs) d→Upto lt bs d (a+bs)
section
variable {lt:α→α→Bool} {bs n:Nat} {d d':Array α}
theorem sorted_front {a m lo hi:Nat} (p:PermIn a m d d') (h:hi≤a) (hs:SortedIn lt lo hi d):SortedIn lt lo hi d':=fun i j h1 h2 h3=>by
 rw[p.2.1 i (.inl zo),p.2.1 j (.inl zo)];exact hs i j h1 h2 h3
theorem Upto.kept {a lo hi:Nat} (h:Upto lt bs d a) (p:PermIn lo hi d d') (hl:a≤lo):Upto lt bs d' a:=by
 induction h with
 | zero=>exact .zero
 | step _ hs ih=>exact .step (ih zo) (sorted_front p hl hs)
theorem Runs.kept {lo' lo hi:Nat} (h:Runs lt bs n d lo') (p:PermIn lo hi d d') (hl:hi≤lo'):Runs lt bs n d' lo':=by
 induction h with
 | done h=>exact .done h
 | more hs _ ih=>exact .more (SortedIn.kept p hl hs) (ih zo)
theorem Upto.runs {a:Nat} (h:Upto lt bs d a) (k:Runs lt bs n d a) (ha:a≤n):Runs lt bs n d 0:=by
 induction h with
 | zero=>exact k
 | step _ hs ih=>exact ih (.more (by rw[Nat.min_eq_left ha];exact hs) k) zo
theorem Runs.head {lo:Nat} (h:Runs lt bs n d lo) (hl:lo<n):SortedIn lt lo (min (lo+bs) n) d:=by
 cases h with
 | done h=>omega
 | more hs _=>exact hs
end
end Go.Proofs.YtidjjejgbahcgaaGreatDoor
