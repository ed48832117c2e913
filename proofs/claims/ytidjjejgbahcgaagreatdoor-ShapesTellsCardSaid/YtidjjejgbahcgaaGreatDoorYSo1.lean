/-
  Sorting a row of terms that a call owns: the compare function, the program's part of the sort, from the row to the sort and back.
-/
import Derived.Test.YtidjjejgbahcgaaGreatDoorYRow
import Derived.Test.YtidjjejgbahcgaaGreatDoorYSt2
import Derived.Sort.OwnSortedInts
namespace Go.Proofs.YtidjjejgbahcgaaGreatDoor
open Go.Shelf Go.RowKit Go.Lib Go.Sort Tw
theorem elt_term:Elt Tm.cs 5 74 79:=Elt.of (.agg #[.int .i64 0,.bool false,.slice none 0 0,.bool false,.slice none 0 0]) 72 Tryz.underlying74 (by kernel_rfl) zo (by kernel_rfl) (nou_list (by kernel_rfl)) Tm.cs_len
 (fun x u hu=>by simp[Tm.cs] at hu;rcases hu with rfl | rfl | rfl | rfl | rfl<;>rfl) (fun x u hu n=>by simp[Tm.cs] at hu;rcases hu with rfl | rfl | rfl | rfl | rfl<;>simp)
theorem elt_vec:Elt Tm.cs 5 75 79:=Elt.of (.agg #[.int .i64 0,.bool false,.slice none 0 0,.bool false,.slice none 0 0]) 72 Tryz.underlying75 (by kernel_rfl) zo (by kernel_rfl) (nou_list (by kernel_rfl)) Tm.cs_len
 (fun x u hu=>by simp[Tm.cs] at hu;rcases hu with rfl | rfl | rfl | rfl | rfl<;>rfl) (fun x u hu n=>by simp[Tm.cs] at hu;rcases hu with rfl | rfl | rfl | rfl | rfl<;>simp)
instance:Inhabited Tm:=⟨⟨0,⟨false,none,0,0,false,none,0,0,0,true⟩⟩⟩
open Go.Shelf Go.RowKit Go.Lib Go.Sort Tw
theorem K64.grown {w w':World} {g:Nat} {cur:Array Value} {t:TypeId} (h:Bx w g cur t) (hn:NoU cur) (hg:w.grownBy w' (some g)):K64 w w':=fun p k hp=>by
 by_cases e:p.block=g
 ·exfalso
  subst e;obtain⟨b,o,m⟩:=p;unfold World.cell? at hp
  have h':w.heap[b]?=some (.cells cur t (0,0)):=h;simp only[h'] at hp
  cases m with
  | none=>exact hn _ (Array.mem_of_getElem? hp) k rfl
  | some m=>simp at hp
 ·have hlt:=World.block_lt_of_cell? w _ hp;have h1:=hg.block p.block hlt (fun h=>e (Option.some.inj h));rw[←hp];unfold World.cell?
  rw[h1]
open Go.RowKit Tw
def KU (u w:World):Prop:=K64 u w
theorem KU.below {u w w':World} (h:KU u w) (hb:Below w.heap.size w w':=by go_grown):KU u w':=K64.trans h (K64.below hb)
theorem KU.k {u w w':World} (h:KU u w) (hk:K64 w w'):KU u w':=K64.trans h hk
end Go.Proofs.YtidjjejgbahcgaaGreatDoor
