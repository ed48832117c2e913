/-
  slices.SortStableFunc on a row of terms that a call owns: the row ends sorted by places, nothing else is changed.
-/
import Derived.Test.YtionhpangenhnaaDoorSo1
namespace Go.Proofs.YtionhpangenhnaaDoor
open Go.Shelf Go.RowKit Go.Lib Go.Sort Tw

theorem flatK_flat {α : Type} [Inhabited α] {f : α → List Value} {k : Nat} (hk : ∀ x, (f x).length = k) (d : Array α) : (flatK f k d).toList = flat f d.toList := by
  apply List.ext_getElem?
  intro t
  have hfl : (flat f d.toList).length = d.size * k := by rw [flat_len hk]; simp
  by_cases ht : t < d.size * k
  · have k0 : 0 < k := by
      rcases Nat.eq_zero_or_pos k with h | h
      · subst h; simp at ht
      · exact h
    have hi : t / k < d.size := Nat.div_lt_of_lt_mul (by rw [Nat.mul_comm]; exact ht)
    have hj : t % k < k := Nat.mod_lt _ k0
    have e : t / k * k + t % k = t := by rw [Nat.mul_comm]; exact Nat.div_add_mod t k
    have hx : d.toList[t / k]? = some d[t / k]! := by
      rw [Array.getElem?_toList, Array.getElem?_eq_getElem hi, getElem!_pos d _ hi]
    have h1 := flat_get hk d.toList (t / k) _ hx (t % k) hj
    rw [e] at h1
    rw [h1, Array.getElem?_toList, Array.getElem?_eq_getElem (by simpa using ht)]
    have h2 := get_flatK f k d t ht
    rw [getElem!_pos _ _ (by simpa using ht)] at h2
    rw [h2, List.getElem?_eq_getElem (by rw [hk]; exact hj), getElem!_pos _ _ (by rw [hk]; exact hj)]
  · rw [List.getElem?_eq_none (by simp; omega), List.getElem?_eq_none (by omega)]
theorem K64.grown {w w' : World} {g : Nat} {cur : Array Value} {t : TypeId} (h : Bx w g cur t) (hn : NoU cur) (hg : w.grownBy w' (some g)) : K64 w w' := fun p k hp => by
  by_cases e : p.block = g
  · exfalso
    subst e
    obtain ⟨b, o, m⟩ := p
    unfold World.cell? at hp
    have h' : w.heap[b]? = some (.cells cur t (0, 0)) := h
    simp only [h'] at hp
    cases m with
    | none => exact hn _ (Array.mem_of_getElem? hp) k rfl
    | some m => simp at hp
  · have hlt := World.block_lt_of_cell? w _ hp
    have h1 := hg.block p.block hlt (fun h => e (Option.some.inj h))
    rw [← hp]
    unfold World.cell?
    rw [h1]
/-- A row laid in an owned block. -/
theorem own_put {w : World} {B g n cap m : Nat} {te : TypeId} {xs : List Value} {os : Array Obj} {F : Array Value} {k : Nat} (h : OwnR w B te k (.slice (some ⟨g, 0, none⟩) n cap) n xs) (hF : F.size = n * k) (hu : ∀ u ∈ F, ∀ n, u ≠ .int .u64 n) :
    OwnR (grow (putRow id (Sort.ahead w m) g 0 F) os) B te k (.slice (some ⟨g, 0, none⟩) n cap) n F.toList ∧ Grew w (grow (putRow id (Sort.ahead w m) g 0 F) os) (.slice (some ⟨g, 0, none⟩) n cap) (.slice (some ⟨g, 0, none⟩) n cap) := by
  obtain ⟨h1, ⟨h2, _⟩ | ⟨g', cap', cur, h2, h3, h4, h5, h6, h7, h8, h9⟩⟩ := h
  · cases h2
  · cases h2
    have hb : w.heap[g]? = some (.cells cur te (0, 0)) := h4
    have hfit : F.size ≤ cur.size := by rw [hF, h7]; exact Nat.mul_le_mul_right _ h5
    have hheap : (grow (putRow id (Sort.ahead w m) g 0 F) os).heap[g]? = some (.cells (putCells id 0 F cur) te (0, 0)) := by
      have hg : g < w.heap.size := (Array.getElem?_eq_some_iff.1 hb).1
      rw [heap_grow_old _ _ (by simpa using hg)]
      simp [putRow, mapBlock, Sort.ahead, Array.getElem?_modify, hb, onCells]
    have hgb : w.grownBy (grow (putRow id (Sort.ahead w m) g 0 F) os) (some g) := by
      refine ⟨rfl, rfl, rfl, by simp, fun k hk hne => ?_⟩
      rw [heap_grow_old _ _ (by simpa using hk)]
      have : g ≠ k := fun e => hne (by rw [e])
      simp [putRow, mapBlock, Sort.ahead, Array.getElem?_modify, this]
    refine ⟨⟨by simpa using hF, .inr ⟨g, _, putCells id 0 F cur, rfl, h3, hheap, h5, h6, by simpa [putCells] using h7, ?_, fun u hx n => ?_⟩⟩, ⟨hgb, K64.grown h4 h9 hgb, .inl rfl⟩⟩
    · rw [← hF]
      apply List.ext_getElem?
      intro j
      by_cases hj : j < F.size
      · rw [List.getElem?_take_of_lt hj, Array.getElem?_toList, Array.getElem?_toList]
        simp [putCells, hj, show j < cur.size by omega]
      · rw [List.getElem?_take_eq_none (by omega), List.getElem?_eq_none (by simp; omega)]
    · obtain ⟨j, hj⟩ := Array.getElem?_of_mem hx
      simp only [putCells, Array.getElem?_mapIdx] at hj
      cases hc : cur[j]? with
      | none => rw [hc] at hj; cases hj
      | some v =>
        rw [hc] at hj
        simp only [Option.map_some, Option.some.injEq] at hj
        split at hj
        · rename_i hlt
          rw [← hj]
          refine hu _ ?_ n
          rw [Nat.sub_zero, id, getElem!_pos F j (by omega)]
          exact Array.getElem_mem _
        · rw [← hj]; exact h9 _ (Array.mem_of_getElem? hc) n
theorem swo_t : SWO (ltOf cmpT) :=
  ⟨fun x => by rw [cmpT_lt]; simp, fun x y z h1 h2 => by rw [cmpT_lt] at h1 h2 ⊢; simp at h1 h2 ⊢; omega, fun x y z h1 h2 => by rw [cmpT_lt] at h1 h2 ⊢; simp at h1 h2 ⊢; omega⟩
/-- Places do not sink. -/
def SortedT (L : List Tm) : Prop := ∀ (i j : Nat) (x y : Tm), i < j → L[i]? = some x → L[j]? = some y → x.at_ ≤ y.at_
set_option maxRecDepth 100000 in
set_option maxHeartbeats 4000000 in
theorem insertion_nil (cb : Array Value) (g : Nat) (w : World) : Calls Tryd.prog 108 #[.slice none 0 0, .int .i64 0, .int .i64 0, .func (.func g) #[] cb] w fun e w' => e = .returned (.tuple #[]) ∧ w' = w := by
  go_enter Tryd.func108, Tryd.ntmps108
  go_wp2_with fail
  go_loopg [8] 0 (fun gk s wr => gk = 0 ∧ s = .int .i64 1 ∧ wr = w)
  case atStart => exact ⟨rfl, rfl, rfl⟩
  case round =>
    obtain ⟨rfl, rfl, rfl⟩ := hrel
    go_wp2_with fail
    go_end0
    exact ⟨rfl, rfl⟩
set_option maxRecDepth 100000 in
set_option maxHeartbeats 4000000 in
theorem stable_nil (cb : Array Value) (g : Nat) (w : World) : Calls Tryd.prog 86 #[.slice none 0 0, .int .i64 0, .func (.func g) #[] cb] w fun e w' => e = .returned (.tuple #[]) ∧ w' = w := by
  go_enter Tryd.func86, Tryd.ntmps86
  go_wp2_with fail
  go_loopg [7, 8] 0 (fun gk s s8 wr => gk = 0 ∧ s = .int .i64 0 ∧ s8 = .int .i64 20 ∧ wr = w)
  case atStart => exact ⟨rfl, rfl, rfl, rfl⟩
  case round =>
    obtain ⟨rfl, rfl, rfl, rfl⟩ := hrel
    go_wp2_with fail
    with_reducible refine (insertion_nil cb g wr).mono ?_
    rintro e w1 ⟨rfl, rfl⟩
    go_wp2_with fail
    go_loopg [6] 0 (fun gk s wr => gk = 0 ∧ s = .int .i64 20 ∧ wr = w1)
    case atStart => exact ⟨rfl, rfl, rfl⟩
    case round =>
      obtain ⟨rfl, rfl, rfl⟩ := hrel
      go_wp2_with fail
      go_end0
      exact ⟨rfl, rfl⟩
set_option maxRecDepth 100000 in
set_option maxHeartbeats 4000000 in
theorem sortNil_q (cb : Array Value) (g : Nat) (w : World) : Calls Tryd.prog 56 #[.slice none 0 0, .func (.func g) #[] cb] w fun e w' => e = .returned (.tuple #[]) ∧ w' = w := by
  go_enter Tryd.func56, Tryd.ntmps56
  go_wp2_with fail
  with_reducible refine (stable_nil cb g w).mono ?_
  rintro e w1 ⟨rfl, rfl⟩
  go_wp2_with fail
  go_end0
  exact ⟨rfl, rfl⟩
set_option maxRecDepth 100000 in
set_option maxHeartbeats 4000000 in
theorem sortFunc_q {w : World} {blk cap N : Nat} {d : Array Tm} (R : RowK Tm.cs 5 w blk 0 d) (hs : d.size = N) (hsz : N < 4611686018427387904) :
    Calls Tryd.prog 56 #[.slice (some ⟨blk, 0, none⟩) N cap, .func (.func 57) #[] #[]] w (SortedW Tm.cs 5 w blk 0 (ltOf cmpT) 0 N d) := by
  have hc := stable_q (cap := cap) stLays Tm.cs 57 #[] blk 0 N d d w w R hs hs (SWK.start R.hH) hsz cmpT (fun _ _ => rfl) (cmpLays blk 0 N w) swo_t
  go_enter Tryd.func56, Tryd.ntmps56
  go_wp2_with fail
  with_reducible refine hc.mono ?_
  rintro e w1 ⟨rfl, h⟩
  have H := Lib.hid h
  clear h
  go_wp2_with fail
  go_end0
  exact ⟨rfl, H.out⟩
/-- Behind the sort. -/
def SortedR (w : World) (B : Nat) (A : Option Addr) (n cap : Nat) (L : List Tm) (e : Ending) (w' : World) : Prop :=
  e = .returned (.tuple #[]) ∧ ∃ L' : List Tm, L'.Perm L ∧ SortedT L' ∧ OwnR w' B 81 5 (.slice A n cap) n (flat Tm.cs L') ∧ Grew w w' (.slice A n cap) (.slice A n cap)
theorem sort_own {w : World} {B n cap : Nat} {A : Option Addr} {L : List Tm} (h : OwnR w B 81 5 (.slice A n cap) n (flat Tm.cs L)) (hn : n ≤ 1000000000) :
    Calls Tryd.prog 56 #[.slice A n cap, .func (.func 57) #[] #[]] w (SortedR w B A n cap L) := by
  have hl := h.eltn elt_term (by omega)
  cases A with
  | none =>
    obtain ⟨h1, ⟨h2, rfl⟩ | ⟨g', cap', cur, h2, _⟩⟩ := id h
    · cases h2
      obtain rfl := List.eq_nil_of_length_eq_zero hl
      refine (sortNil_q #[] 57 w).mono ?_
      rintro e w1 ⟨rfl, rfl⟩
      exact ⟨rfl, [], List.Perm.refl _, fun i j x y _ h => by simp at h, h, ⟨grownBy_refl' w1 _, fun p n hp => hp, .inl rfl⟩⟩
    · cases h2
  | some a =>
    obtain ⟨_, _, e, _, ha, _⟩ := h.slice
    cases e
    obtain ⟨g, rfl⟩ := ha a rfl
    have hfl : ∀ j, j < (flatK Tm.cs 5 L.toArray).size → (flat Tm.cs L)[j]? = some (flatK Tm.cs 5 L.toArray)[j]! := fun j hj => by
      have e := flatK_flat Tm.cs_len L.toArray
      have e2 : (flat Tm.cs L)[j]? = (flatK Tm.cs 5 L.toArray).toList[j]? := by rw [e]
      rw [e2, Array.getElem?_toList, Array.getElem?_eq_getElem hj, getElem!_pos (flatK Tm.cs 5 L.toArray) j hj]
    have R : RowK Tm.cs 5 w g 0 L.toArray := ⟨Tm.cs_len, fun x v hv => elt_term.one x v hv, fun j hj => ⟨by rw [Nat.zero_add]; exact h.cell (hfl j hj), h.frozen _⟩, h.blk.1⟩
    refine (sortFunc_q R (by simpa using hl) (by omega)).mono ?_
    rintro e w1 ⟨rfl, d', hp, hs, m, os, rfl⟩
    have hsz : d'.size = n := by rw [hp.1]; simpa using hl
    have hF : (flatK Tm.cs 5 d').size = n * 5 := by rw [size_flatK, hsz]
    have hu : ∀ u ∈ flatK Tm.cs 5 d', ∀ n, u ≠ .int .u64 n := fun u hu n => by
      have hu2 : u ∈ flat Tm.cs d'.toList := by rw [← flatK_flat Tm.cs_len]; simpa using hu
      obtain ⟨x, _, hx⟩ := flat_mem hu2
      exact elt_term.nou x u hx n
    have ho := own_put (m := m) (os := os) h hF hu
    rw [flatK_flat Tm.cs_len] at ho
    refine ⟨rfl, d'.toList, ?_, ?_, ho⟩
    · have h3 := hp.2.2
      rw [Array.extract_eq_self_of_le (by omega), Array.extract_eq_self_of_le (by simp [hl])] at h3
      simpa using h3
    · intro i j x y hij hx hy
      have hj : j < d'.size := by
        rcases Nat.lt_or_ge j d'.size with h | h
        · exact h
        · rw [List.getElem?_eq_none (by simpa using h)] at hy; cases hy
      have h4 := hs i j (Nat.zero_le _) hij (by omega)
      rw [cmpT_lt, getElem!_pos d' i (by omega), getElem!_pos d' j hj] at h4
      rw [Array.getElem?_toList, Array.getElem?_eq_getElem (by omega)] at hx
      rw [Array.getElem?_toList, Array.getElem?_eq_getElem hj] at hy
      cases hx
      cases hy
      simp at h4
      omega
end Go.Proofs.YtionhpangenhnaaDoor
