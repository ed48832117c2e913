/-
  Sorting a row of terms that a call owns: the compare function, the program's part of the sort, from the row to the sort and back.
-/
import Derived.Test.YtionhpangenhnaaDoorRs
import Derived.Test.YtionhpangenhnaaDoorSt2
import Derived.Sort.OwnSortedInts
namespace Go.Proofs.YtionhpangenhnaaDoor
open Go.Shelf Go.RowKit Go.Lib Go.Sort Tw

theorem elt_term : Elt Tm.cs 5 57 81 := Elt.of (.agg #[.int .i64 0, .bool false, .slice none 0 0, .bool false, .slice none 0 0]) 72 Tryd.underlying57 (by kernel_rfl) (by omega) (by kernel_rfl) (nou_list (by kernel_rfl)) Tm.cs_len
  (fun x u hu => by simp [Tm.cs] at hu; rcases hu with rfl | rfl | rfl | rfl | rfl <;> rfl) (fun x u hu n => by simp [Tm.cs] at hu; rcases hu with rfl | rfl | rfl | rfl | rfl <;> simp)
theorem elt_vec : Elt Tm.cs 5 61 81 := Elt.of (.agg #[.int .i64 0, .bool false, .slice none 0 0, .bool false, .slice none 0 0]) 72 Tryd.underlying61 (by kernel_rfl) (by omega) (by kernel_rfl) (nou_list (by kernel_rfl)) Tm.cs_len
  (fun x u hu => by simp [Tm.cs] at hu; rcases hu with rfl | rfl | rfl | rfl | rfl <;> rfl) (fun x u hu n => by simp [Tm.cs] at hu; rcases hu with rfl | rfl | rfl | rfl | rfl <;> simp)
set_option maxRecDepth 100000 in
theorem stLays : StLays Tryd.prog 5 :=
  { mixed := by kernel_rfl
    tI := Tryd.underlying3, aI := fun _ => rfl, zI := fun _ => rfl, vI := fun _ => rfl
    tB := Tryd.underlying4, aB := fun _ => rfl, zB := fun _ => rfl, vB := fun _ => rfl
    tU := Tryd.underlying152, aU := fun _ => rfl, zU := fun _ => rfl, vU := fun _ => rfl
    tS := Tryd.underlying57, aS := fun _ => rfl, zS := fun _ => rfl, vS := fun _ => rfl
    aE := fun _ => rfl, zE := fun _ => rfl
    f1 := Tryd.func139
    f2 := Tryd.func130
    f3 := Tryd.func108
    f4 := Tryd.func109
    f5 := Tryd.func86
    c1 := fun _ _ => rfl, c2 := fun _ _ => rfl, c3 := fun _ _ => rfl, c4 := fun _ _ => rfl, c5 := fun _ _ => rfl }
set_option maxRecDepth 100000 in
set_option maxHeartbeats 4000000 in
theorem isNaN_q (z : Int) (w : World) : Calls Tryd.prog 87 #[.int .i64 z] w fun e w' => e = .returned (.bool false) ∧ w' = w := by
  have g : (z != z) = false := by simp
  go_enter Tryd.func87, Tryd.ntmps87
  go_wp2_with fail
  go_ret
  exact ⟨rfl, rfl⟩
/-- How two numbers compare. -/
def cmpZ (a b : Int) : Int := if a < b then -1 else if b < a then 1 else 0
set_option maxRecDepth 100000 in
set_option maxHeartbeats 4000000 in
theorem compare_q (a b z : Int) (hz : Hid (cmpZ a b = z)) (w : World) : Calls Tryd.prog 58 #[.int .i64 a, .int .i64 b] w fun e w' => e = .returned (.int .i64 z) ∧ w' = w := by
  replace hz := hz.out
  unfold cmpZ at hz
  by_cases h1 : a < b
  · rw [if_pos h1] at hz
    subst hz
    go_enter Tryd.func58, Tryd.ntmps58
    go_wp2_with fail
    with_reducible refine (isNaN_q a w).mono ?_
    rintro e w1 ⟨rfl, rfl⟩
    go_wp2_with fail
    with_reducible refine (isNaN_q b w1).mono ?_
    rintro e w2 ⟨rfl, rfl⟩
    go_wp2_with fail
    go_ret
    exact ⟨rfl, rfl⟩
  · rw [if_neg h1] at hz
    by_cases h2 : b < a
    · rw [if_pos h2] at hz
      subst hz
      go_enter Tryd.func58, Tryd.ntmps58
      go_wp2_with fail
      with_reducible refine (isNaN_q a w).mono ?_
      rintro e w1 ⟨rfl, rfl⟩
      go_wp2_with fail
      with_reducible refine (isNaN_q b w1).mono ?_
      rintro e w2 ⟨rfl, rfl⟩
      go_wp2_with fail
      go_ret
      exact ⟨rfl, rfl⟩
    · rw [if_neg h2] at hz
      subst hz
      go_enter Tryd.func58, Tryd.ntmps58
      go_wp2_with fail
      with_reducible refine (isNaN_q a w).mono ?_
      rintro e w1 ⟨rfl, rfl⟩
      go_wp2_with fail
      with_reducible refine (isNaN_q b w1).mono ?_
      rintro e w2 ⟨rfl, rfl⟩
      go_wp2_with fail
      go_ret
      exact ⟨rfl, rfl⟩
instance : Inhabited Tm := ⟨⟨0, ⟨false, none, 0, 0, false, none, 0, 0, 0, true⟩⟩⟩
/-- How two terms compare. -/
def cmpT (x y : Tm) : Int := cmpZ x.at_ y.at_
set_option maxRecDepth 100000 in
set_option maxHeartbeats 4000000 in
theorem normCmp_q (x y : Tm) (w : World) : Calls Tryd.prog 57 #[.agg x.cs.toArray, .agg y.cs.toArray] w fun e w' => e = .returned (.int .i64 (cmpT x y)) ∧ ∃ q os', w' = grow (w.drewN q) os' := by
  show Calls Tryd.prog 57 #[.agg #[.int .i64 x.at_, .bool x.x.s, .slice x.x.A x.x.l x.x.c, .bool x.x.s', .slice x.x.A' x.x.l' x.x.c'], .agg #[.int .i64 y.at_, .bool y.x.s, .slice y.x.A y.x.l y.x.c, .bool y.x.s', .slice y.x.A' y.x.l' y.x.c']] w _
  obtain ⟨W, hW, x0, x1, hB⟩ := boxes2 w #[.int .i64 x.at_, .bool x.x.s, .slice x.x.A x.x.l x.x.c, .bool x.x.s', .slice x.x.A' x.x.l' x.x.c'] 81 #[.int .i64 y.at_, .bool y.x.s, .slice y.x.A y.x.l y.x.c, .bool y.x.s', .slice y.x.A' y.x.l' y.x.c'] 81
  obtain ⟨z, HZ⟩ : ∃ z, Hid (cmpZ x.at_ y.at_ = z) := ⟨_, Lib.hid rfl⟩
  have p0 := x0.cell 0 _ rfl
  have p1 := x1.cell 0 _ rfl
  go_enter Tryd.func57, Tryd.ntmps57
  go_wp2_with fail
  rw [← hW]
  have HW := Lib.hid hW
  clear hW
  go_wp2_with fail
  with_reducible refine (compare_q x.at_ y.at_ z HZ W).mono ?_
  rintro e w1 ⟨rfl, rfl⟩
  go_wp2_with fail
  go_ret
  exact ⟨by rw [show cmpT x y = z from HZ.out]; rfl, 0, _, by rw [HW.out, alloc_eq_grow, alloc_eq_grow, grow_grow]; rfl⟩
theorem cmpLays (blk off N : Nat) (w0 : World) : CmpLays Tryd.prog 57 #[] Tm.cs 5 cmpT blk off N w0 := fun m os dk _ x y => by
  simpa using normCmp_q x y _
theorem cmpT_lt (x y : Tm) : ltOf cmpT x y = decide (x.at_ < y.at_) := by
  unfold ltOf cmpT cmpZ
  by_cases h1 : x.at_ < y.at_
  · rw [if_pos h1]; simp [h1]
  · rw [if_neg h1]
    by_cases h2 : y.at_ < x.at_
    · rw [if_pos h2]; simp [h1]
    · rw [if_neg h2]; simp [h1]
end Go.Proofs.YtionhpangenhnaaDoor
