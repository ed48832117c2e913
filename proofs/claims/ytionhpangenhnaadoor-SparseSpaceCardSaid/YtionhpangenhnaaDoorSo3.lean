/-
  slices.Clone of terms, sparse.Norm$2, slices.IndexFunc, slices.DeleteFunc on a row that a call owns. Written by wip/gen/so3.py.
-/
import Derived.Test.YtionhpangenhnaaDoorSo2
import Derived.Test.YtionhpangenhnaaDoorLst
import Derived.Test.YtionhpangenhnaaDoorAp
namespace Go.Proofs.YtionhpangenhnaaDoor
open Go.RowKit Tw

/-- A copy told. -/
def TellsC (w : World) (n : Nat) (L : List Tm) (e : Ending) (w' : World) : Prop := ∃ H c, e = .returned (.slice H n c) ∧ OwnR w' w.heap.size 81 5 (.slice H n c) n (flat Tm.cs L) ∧ Below w.heap.size w w'
set_option maxRecDepth 100000 in
set_option maxHeartbeats 4000000 in
theorem clone_t {w : World} {A : Option Addr} {n c : Nat} {L : List Tm} (h : Sl Tm.cs 5 w A n c L) (hc : A = none → c = 0) (hn : n ≤ 1000000000) : Calls Tryd.prog 55 #[.slice A n c] w (TellsC w n L) := by
  have q42 : ∀ (w : World) (a : Option Addr) (n c n' c' : Nat), (binOp .eql 57 (.slice a n c) (.slice none n' c')).run Tryd.prog w = .ok (.bool a.isNone) w := fun w a n c n' c' => Lib.run_eql_slice_nil w _ _ a n c n' c' Tryd.underlying57
  cases A with
  | none =>
    obtain rfl := h.none_len
    obtain rfl := hc rfl
    obtain rfl := List.eq_nil_of_length_eq_zero h.1
    clear h hc
    go_enter Tryd.func55, Tryd.ntmps55
    go_wp2_with fail
    go_ret
    exact ⟨none, 0, rfl, OwnR.nil _ _ _ _, Below.refl _ _⟩
  | some ad =>
    obtain ⟨W, hW, x0, hB⟩ := boxes1 w #[] 81
    have HS := Lib.hid (h.below hB)
    have ho : OwnR W w.heap.size 81 5 (.slice (some ⟨w.heap.size, 0, none⟩) 0 0) 0 (flat Tm.cs []) := ⟨by simp [flat], .inr ⟨w.heap.size, 0, #[], rfl, Nat.le_refl _, x0, Nat.le_refl _, by unfold maxLen; omega, by simp, by simp [flat], fun u hu => by simp at hu⟩⟩
    have HO := Lib.hid ho
    have hbw : w.heap.size ≤ W.heap.size := hB.size
    clear h x0 ho hc
    go_enter Tryd.func55, Tryd.ntmps55
    go_wp2_with (at_builtin; rw [← hW]; refine And.left (b := True) ?_)
    refine ⟨?_, trivial⟩
    refine Elt.app elt_term rfl _ _ rfl w.heap.size (.slice (some ⟨w.heap.size, 0, none⟩) 0 0) 0 [] rfl HO.out (.slice (some ad) n c) n L rfl HS.out.2 (by omega) hbw ?_
    intro H1 c1 w1 ho1 hg1
    rw [Nat.zero_add, List.nil_append] at ho1
    have HO1 := Lib.hid ho1
    have hb1 : Below w.heap.size w w1 := hB.trans (hg1.below hbw (fun g hg => HO.out.base g hg))
    clear ho1 hg1 hW HO HS
    rw [Nat.zero_add]
    go_wp2_with fail
    go_ret
    exact ⟨H1, c1, rfl, HO1.out, hb1⟩
/-- It is not 0. -/
def nzT (x : Tm) : Bool := decide (x.x.q ≠ 0)
theorem num_sign (q : Rat) : (q.num.sign == 0) = decide (q = 0) := by
  by_cases h : q = 0
  · subst h; rfl
  · rw [decide_eq_false h, beq_eq_false_iff_ne]
    intro e
    exact h (Rat.num_eq_zero.1 (Int.sign_eq_zero_iff_zero.1 e))
set_option maxRecDepth 100000 in
set_option maxHeartbeats 4000000 in
theorem norm2_q {w : World} {x : Tm} {m : Nat} (h : FrOk w m x.x) (hm : m ≤ 800000) (r : Bool) (hr : Hid (nzT x = r)) :
    Calls Tryd.prog 61 #[.agg #[.int .i64 x.at_, .bool x.x.s, .slice x.x.A x.x.l x.x.c, .bool x.x.s', .slice x.x.A' x.x.l' x.x.c']] w fun e w' => e = .returned (.bool (!r)) ∧ Below w.heap.size w w' := by
  obtain ⟨z, hz⟩ : ∃ z, Hid (x.x.q.num.sign = z) := ⟨_, Lib.hid rfl⟩
  have g1 : (z == 0) = !r := by rw [← hz.out, num_sign, ← hr.out]; unfold nzT; simp
  have HX := h.r
  clear h
  obtain ⟨W, hW, x0, hB⟩ := boxes1 w #[.int .i64 x.at_, .bool x.x.s, .slice x.x.A x.x.l x.x.c, .bool x.x.s', .slice x.x.A' x.x.l' x.x.c'] 81
  replace HX := HX.below hB
  have HX0 := Lib.hid x0
  clear x0
  have Bz := Below.refl W.heap.size W
  have p0_1 := (HX0.out.below Bz).cell 1 (.bool x.x.s) rfl
  have p0_2 := (HX0.out.below Bz).cell 2 (.slice x.x.A x.x.l x.x.c) rfl
  have p0_3 := (HX0.out.below Bz).cell 3 (.bool x.x.s') rfl
  have p0_4 := (HX0.out.below Bz).cell 4 (.slice x.x.A' x.x.l' x.x.c') rfl
  go_enter Tryd.func61, Tryd.ntmps61
  go_wp2_with fail
  rw [← hW]
  clear hW
  go_wp2_with fail
  with_reducible refine (sign_q (R.below HX (by go_grown)) (by omega) z hz).mono ?_
  rintro e w1 ⟨rfl, b1⟩
  replace b1 := below_trans (a := W) (by go_grown) b1
  replace Bz := below_trans Bz b1
  clear b1
  clear p0_1 p0_2 p0_3 p0_4
  go_wp2_with fail
  go_ret
  have hF := below_trans (c := w1) hB Bz
  exact ⟨rfl, below_trans hF (by go_grown)⟩
/-- The first one that is 0, from place i on. -/
def ixZ : List Tm → Nat → Int
  | [], _ => -1
  | x :: L, i => if nzT x = true then ixZ L (i + 1) else (i : Int)
theorem ixZ_cases (L : List Tm) : ∀ k, (ixZ L k = -1 ∧ ∀ x ∈ L, nzT x = true) ∨ ∃ i x, ixZ L k = ((k + i : Nat) : Int) ∧ (∀ x ∈ L.take i, nzT x = true) ∧ L[i]? = some x ∧ nzT x = false := by
  induction L with
  | nil => exact fun k => .inl ⟨rfl, fun x hx => by cases hx⟩
  | cons y L ih =>
    intro k
    unfold ixZ
    cases hy : nzT y
    · exact .inr ⟨0, y, by simp, by simp, rfl, hy⟩
    · rw [if_pos rfl]
      rcases ih (k + 1) with ⟨h1, h2⟩ | ⟨i, x, h1, h2, h3, h4⟩
      · exact .inl ⟨h1, fun x hx => by rcases List.mem_cons.1 hx with rfl | hx; exact hy; exact h2 x hx⟩
      · exact .inr ⟨i + 1, x, by rw [h1]; congr 1; omega, fun z hz => by rw [List.take_succ_cons] at hz; rcases List.mem_cons.1 hz with rfl | hz; exact hy; exact h2 z hz, by simpa using h3, h4⟩
/-- A state of the loop of IndexFunc. -/
def IX1 (w : World) (L : List Tm) (r : Int) (n gk : Nat) (s : Value) (wr : World) : Prop := ∃ i : Nat, i ≤ n ∧ n - i = gk ∧ s = .int .i64 (i : Int) ∧ Below w.heap.size w wr ∧ ixZ (L.drop i) i = r
set_option maxRecDepth 100000 in
set_option maxHeartbeats 4000000 in
theorem index_q {w : World} {A : Option Addr} {n c m : Nat} {L : List Tm} (h : Sl Tm.cs 5 w A n c L) (hok : Hid (∀ x ∈ L, FrOk w m x.x)) (hm : m ≤ 800000) (hn : n ≤ 1000000000) (r : Int) (hr : Hid (ixZ L 0 = r)) :
    Calls Tryd.prog 88 #[.slice A n c, .func (.func 61) #[] #[]] w fun e w' => e = .returned (.int .i64 r) ∧ Below w.heap.size w w' := by
  have H := Lib.hid h
  have HLN := Lib.hid h.1
  have hst : IX1 w L r n n (.int .i64 ((0 : Nat) : Int)) w := ⟨0, Nat.zero_le _, rfl, rfl, Below.refl _ _, hr.out⟩
  have HST := Lib.hid hst
  clear h hst
  go_enter Tryd.func88, Tryd.ntmps88
  go_wp2_with fail
  go_loopg [8] n (fun gk s wr => IX1 w L r n gk s wr)
  case atStart => exact HST.out
  case round =>
    clear HST
    obtain ⟨i, hi, hgk, rfl, hB, hd⟩ := hrel
    have HGK := Lib.hid hgk
    by_cases hlt : i < n
    · obtain ⟨b, off, rfl, hel⟩ := H.out.at Tm.cs_len (by omega) (by omega)
      obtain ⟨x, hx⟩ : ∃ x, L[i]? = some x := ⟨L[i]'(by rw [HLN.out]; exact hlt), List.getElem?_eq_getElem _⟩
      have hnd := hel i x hx
      have hfx := hok.out x (List.mem_of_getElem? hx)
      have e1 : L.drop i = x :: L.drop (i + 1) := by rw [List.drop_eq_getElem_cons (by rw [HLN.out]; exact hlt), (List.getElem?_eq_some_iff.1 hx).2]
      rw [e1] at hd
      unfold ixZ at hd
      have i1 : (i : Int) < (n : Int) := by omega
      have i2 : (0 : Int) ≤ (i : Int) := by omega
      clear hx hel e1 hgk
      cases hp : nzT x
      · have HP := Lib.hid hp
        rw [if_neg (by rw [hp]; simp)] at hd
        have HD2 := Lib.hid hd
        clear hp hd
        have Bz := Below.refl wr.heap.size wr
        have p50_0 := (hnd.below (below_trans hB Bz)).c0 (u := .int .i64 x.at_) rfl
        have p50_1 := (hnd.below (below_trans hB Bz)).at 1 (.bool x.x.s) rfl
        have p50_2 := (hnd.below (below_trans hB Bz)).at 2 (.slice x.x.A x.x.l x.x.c) rfl
        have p50_3 := (hnd.below (below_trans hB Bz)).at 3 (.bool x.x.s') rfl
        have p50_4 := (hnd.below (below_trans hB Bz)).at 4 (.slice x.x.A' x.x.l' x.x.c') rfl
        go_wp2_with fail
        with_reducible refine (norm2_q (x := x) (hfx.below (below_trans hB (below_trans (b := wr) Bz (by go_grown)))) hm false HP).mono ?_
        rintro e w1 ⟨rfl, b1⟩
        replace b1 := below_trans (a := wr) (by go_grown) b1
        replace Bz := below_trans Bz b1
        clear b1
        clear p50_0 p50_1 p50_2 p50_3 p50_4
        go_wp2_with fail
        go_ret
        have hF := below_trans (c := w1) hB Bz
        exact ⟨by rw [HD2.out]; rfl, below_trans (below_trans hB Bz) (by go_grown)⟩
      · have HP := Lib.hid hp
        rw [if_pos hp] at hd
        have HD2 := Lib.hid hd
        clear hp hd
        have Bz := Below.refl wr.heap.size wr
        have p50_0 := (hnd.below (below_trans hB Bz)).c0 (u := .int .i64 x.at_) rfl
        have p50_1 := (hnd.below (below_trans hB Bz)).at 1 (.bool x.x.s) rfl
        have p50_2 := (hnd.below (below_trans hB Bz)).at 2 (.slice x.x.A x.x.l x.x.c) rfl
        have p50_3 := (hnd.below (below_trans hB Bz)).at 3 (.bool x.x.s') rfl
        have p50_4 := (hnd.below (below_trans hB Bz)).at 4 (.slice x.x.A' x.x.l' x.x.c') rfl
        go_wp2_with fail
        with_reducible refine (norm2_q (x := x) (hfx.below (below_trans hB (below_trans (b := wr) Bz (by go_grown)))) hm true HP).mono ?_
        rintro e w1 ⟨rfl, b1⟩
        replace b1 := below_trans (a := wr) (by go_grown) b1
        replace Bz := below_trans Bz b1
        clear b1
        clear p50_0 p50_1 p50_2 p50_3 p50_4
        go_wp2_with fail
        go_roundg (n - (i + 1))
        case measure => have := HGK.out; omega
        case rel => exact ⟨i + 1, by omega, rfl, by go_num, below_trans (below_trans hB Bz) (by go_grown), HD2.out⟩
    · obtain rfl : i = n := by omega
      have i1 : ¬ (i : Int) < (i : Int) := by omega
      have e1 : L.drop i = [] := List.drop_eq_nil_of_le (by rw [HLN.out]; exact Nat.le_refl _)
      rw [e1] at hd
      have HD2 : Hid ((-1 : Int) = r) := Lib.hid hd
      clear hd e1
      go_wp2_with fail
      go_ret
      exact ⟨by rw [← HD2.out]; rfl, hB⟩
/-- Room behind the first i elements of an owned row is stored over. -/
theorem bx_tail {t : TypeId} (vs : List Value) : ∀ {w : World} {g o : Nat} {cur : Array Value}, Bx w g cur t → NoU cur → (∀ u ∈ vs, ∀ n, u ≠ .int .u64 n) → ∃ cur', Bx (w.setCells g o vs) g cur' t ∧ NoU cur' ∧ cur'.size = cur.size ∧ (∀ m, m ≤ o → cur'.toList.take m = cur.toList.take m) ∧ w.grownBy (w.setCells g o vs) (some g) := by
  induction vs with
  | nil => intro w g o cur h hn _; exact ⟨cur, h, hn, rfl, fun _ _ => rfl, grownBy_refl' w _⟩
  | cons v r ih =>
    intro w g o cur h hn hv
    obtain ⟨cur', h1, h2, h3, h4, h5⟩ := ih (o := o + 1) (h.set o v) (hn.set' o (hv v List.mem_cons_self)) (fun u hu => hv u (List.mem_cons_of_mem _ hu))
    refine ⟨cur', h1, h2, by rw [h3]; simp, fun m hm => ?_, grown_trans (grown_set (grownBy_refl' w (some g)) (.inl rfl) v) h5⟩
    rw [h4 m (by omega), Array.toList_setIfInBounds, List.take_set, List.set_eq_of_length_le (by rw [List.length_take]; omega)]
theorem own_tail {w : World} {B g n cap i k : Nat} {te : TypeId} {xs : List Value} (h : OwnR w B te k (.slice (some ⟨g, 0, none⟩) n cap) n xs) (hi : i ≤ n) (vs : List Value) (hv : ∀ u ∈ vs, ∀ n, u ≠ .int .u64 n) :
    OwnR (w.setCells g (i * k) vs) B te k (.slice (some ⟨g, 0, none⟩) i cap) i (xs.take (i * k)) ∧ Grew w (w.setCells g (i * k) vs) (.slice (some ⟨g, 0, none⟩) n cap) (.slice (some ⟨g, 0, none⟩) i cap) := by
  obtain ⟨h1, ⟨h2, _⟩ | ⟨g', cap', cur, h2, h3, h4, h5, h6, h7, h8, h9⟩⟩ := h
  · cases h2
  · cases h2
    obtain ⟨cur', k1, k2, k3, k4, k5⟩ := bx_tail (o := i * k) vs h4 h9 hv
    have hik : i * k ≤ n * k := Nat.mul_le_mul_right _ hi
    refine ⟨⟨by rw [List.length_take, h1, Nat.min_eq_left hik], .inr ⟨g, _, cur', rfl, h3, k1, by omega, h6, by rw [k3, h7], ?_, k2⟩⟩, ⟨k5, K64.grown h4 h9 k5, .inl rfl⟩⟩
    rw [k4 _ (Nat.le_refl _), ← h8, List.take_take, Nat.min_eq_left hik]
theorem cell_0 {w : World} {B g n cap : Nat} {L : List Tm} (h : OwnR w B 81 5 (.slice (some ⟨g, 0, none⟩) n cap) n (flat Tm.cs L)) {i : Nat} {x : Tm} (hx : L[i]? = some x) : w.cell? ⟨g, i * 5, none⟩ = some (.int .i64 x.at_) :=
  elt_vec.cell h hx (j := 0) (u := .int .i64 x.at_) (by omega) rfl
/-- A term stored over. -/
theorem tm_store {t : TypeId} (E : Elt Tm.cs 5 t 81) {w : World} {B g n cap i : Nat} {L : List Tm} (h : OwnR w B 81 5 (.slice (some ⟨g, 0, none⟩) n cap) n (flat Tm.cs L)) {y : Tm} (hy : L[i]? = some y) (x : Tm) :
    ∃ V, V = ((((w.setCell ⟨g, i * 5, none⟩ (.int .i64 x.at_)).setCell ⟨g, i * 5 + 1, none⟩ (.bool x.x.s)).setCell ⟨g, i * 5 + 2, none⟩ (.slice x.x.A x.x.l x.x.c)).setCell ⟨g, i * 5 + 3, none⟩ (.bool x.x.s')).setCell ⟨g, i * 5 + 4, none⟩ (.slice x.x.A' x.x.l' x.x.c') ∧
      OwnR V B 81 5 (.slice (some ⟨g, 0, none⟩) n cap) n (flat Tm.cs (L.set i x)) ∧ Grew w V (.slice (some ⟨g, 0, none⟩) n cap) (.slice (some ⟨g, 0, none⟩) n cap) := by
  have := E.sets h hy (y := x) [(0, .int .i64 x.at_), (1, .bool x.x.s), (2, .slice x.x.A x.x.l x.x.c), (3, .bool x.x.s'), (4, .slice x.x.A' x.x.l' x.x.c')] (fun p hp => by simp at hp; rcases hp with rfl | rfl | rfl | rfl | rfl <;> exact ⟨by simp, by simp⟩) rfl
  exact ⟨_, rfl, this⟩
/-- clear on a row of structs. -/
theorem run_clear_cells {P : Program} {n : Nat} (w : World) (t e ty : TypeId) (z : Value) (ht : P.underlying t = some (.slice e)) (hv : ∀ w, (zeroValue e).run P w = .ok z w) (h1 : ∀ u ∈ (Builtin.zeroCells z.cells n).toList, u.oneCell' = true) (b o c : Nat) (hn : 0 < n)
    (hc : ∀ j, j < (Builtin.zeroCells z.cells n).toList.length → (w.cell? ⟨b, o + j, none⟩).isSome = true) (hf : ∀ j, j < (Builtin.zeroCells z.cells n).toList.length → w.frozen? ⟨b, o + j, none⟩ = false) :
    (Builtin.clear_ #[t] ty #[.slice (some ⟨b, o, none⟩) n c]).run P w = .ok (.tuple #[]) (w.setCells b o (Builtin.zeroCells z.cells n).toList) := by
  have hst := run_storeCells_cells (P := P) b o (Builtin.zeroCells z.cells n).toList 0 w (by simpa using hc) (by simpa using hf) h1
  simp only [Nat.add_zero] at hst
  obtain ⟨m, rfl⟩ : ∃ m, n = m + 1 := ⟨n - 1, by omega⟩
  simp [Builtin.clear_, run_underlying ht, hv, hst]
/-- No digit is lost on the way. -/
def KU (u w : World) : Prop := K64 u w
theorem KU.below {u w w' : World} (h : KU u w) (hb : Below w.heap.size w w') : KU u w' := K64.trans h (K64.below hb)
theorem KU.k {u w w' : World} (h : KU u w) (hk : K64 w w') : KU u w' := K64.trans h hk
/-- A state of the loop of DeleteFunc. -/
def DF1 (w u : World) (g n c : Nat) (L : List Tm) (gk : Nat) (s5 s6 : Value) (wr : World) : Prop :=
  ∃ (i j : Nat) (dk : List Tm), s5 = .int .i64 (i : Int) ∧ s6 = .int .i64 (j : Int) ∧ i < j ∧ j ≤ n ∧ n - j ≤ gk ∧ OwnR wr w.heap.size 81 5 (.slice (some ⟨g, 0, none⟩) n c) n (flat Tm.cs dk) ∧ dk.take i = (L.take j).filter nzT ∧ dk.drop j = L.drop j ∧ KU u wr ∧ Below w.heap.size w wr
/-- What is 0 struck out of a row that a call owns. -/
def DelT (w u : World) (A : Option Addr) (c : Nat) (L : List Tm) (e : Ending) (w' : World) : Prop :=
  ∃ n', e = .returned (.slice A n' c) ∧ OwnR w' w.heap.size 81 5 (.slice A n' c) n' (flat Tm.cs (L.filter nzT)) ∧ KU u w' ∧ Below w.heap.size w w'
theorem zs_len {z : Value} {k : Nat} (hz : z.cells.size = k) (n : Nat) : (Builtin.zeroCells z.cells n).toList.length = n * k := by rw [Array.length_toList, size_zeroCells, hz]
theorem zero_nou {n : Nat} : ∀ u ∈ (Builtin.zeroCells (Value.agg #[.int .i64 0, .bool false, .slice none 0 0, .bool false, .slice none 0 0]).cells n).toList, (∀ m, u ≠ .int .u64 m) ∧ u.oneCell' = true := fun u hu => by
  have hu' : u ∈ Builtin.zeroCells (Value.agg #[.int .i64 0, .bool false, .slice none 0 0, .bool false, .slice none 0 0]).cells n := by simpa using hu
  unfold Builtin.zeroCells at hu'
  obtain ⟨i, _, rfl⟩ := Array.mem_map.1 hu'
  have h5 : i % 5 < 5 := Nat.mod_lt _ (by omega)
  show (∀ m, (#[Value.int .i64 0, .bool false, .slice none 0 0, .bool false, .slice none 0 0] : Array Value)[i % 5]! ≠ _) ∧ _
  have : ∀ k, k < 5 → (∀ m, (#[Value.int .i64 0, .bool false, .slice none 0 0, .bool false, .slice none 0 0] : Array Value)[k]! ≠ .int .u64 m) ∧ ((#[Value.int .i64 0, .bool false, .slice none 0 0, .bool false, .slice none 0 0] : Array Value)[k]!).oneCell' = true := fun k hk => by
    obtain rfl | rfl | rfl | rfl | rfl : k = 0 ∨ k = 1 ∨ k = 2 ∨ k = 3 ∨ k = 4 := by omega
    all_goals exact ⟨(fun m e => (by cases e)), rfl⟩
  exact this _ h5
theorem filter_snoc {L : List Tm} {j : Nat} {x : Tm} (hx : L[j]? = some x) (r : Bool) (hp : nzT x = r) : (L.take (j + 1)).filter nzT = if r = true then (L.take j).filter nzT ++ [x] else (L.take j).filter nzT := by
  rw [take_snoc hx, List.filter_append]
  cases r
  · rw [if_neg (by simp), List.filter_cons_of_neg (by rw [hp]; simp)]; simp
  · rw [if_pos rfl, List.filter_cons_of_pos hp]; rfl
set_option maxRecDepth 100000 in
set_option maxHeartbeats 4000000 in
theorem delete_own {w u : World} {A : Option Addr} {n c m : Nat} {L : List Tm} (h : OwnR u w.heap.size 81 5 (.slice A n c) n (flat Tm.cs L)) (hok : Hid (∀ x ∈ L, FrOk u m x.x)) (hm : m ≤ 800000) (hn : n ≤ 1000000000) (hu : Below w.heap.size w u) :
    Calls Tryd.prog 60 #[.slice A n c, .func (.func 61) #[] #[]] u (DelT w u A c L) := by
  have HL := Lib.hid (h.eltn elt_vec (by omega))
  have HSL := Lib.hid (h.sl' elt_vec HL.out)
  have HO := Lib.hid h
  have hcap := h.cap
  rcases ixZ_cases L 0 with ⟨h1, h2⟩ | ⟨i0, x0, h1, h2, h3, h4⟩
  · have e : L.filter nzT = L := List.filter_eq_self.2 h2
    have HE := Lib.hid e
    have HR := Lib.hid h1
    clear h h1 h2 e
    go_enter Tryd.func60, Tryd.ntmps60
    go_wp2_with fail
    with_reducible refine (index_q HSL.out hok hm hn (-1) HR).mono ?_
    rintro e w1 ⟨rfl, b1⟩
    have hb1 := below_trans hu b1
    go_wp2_with fail
    go_ret
    exact ⟨n, rfl, by rw [HE.out]; exact HO.out.below b1, KU.below (fun _ _ hp => hp) b1, hb1⟩
  · have hi0 : i0 < n := by rw [← HL.out]; exact (List.getElem?_eq_some_iff.1 h3).1
    obtain ⟨g, rfl⟩ := h.some (by omega)
    have HR : Hid (ixZ L 0 = (i0 : Int)) := Lib.hid (by rw [h1, Nat.zero_add])
    have hst : L.take i0 = (L.take (i0 + 1)).filter nzT := by rw [filter_snoc h3 false h4, if_neg (by simp), List.filter_eq_self.2 h2]
    have HST := Lib.hid hst
    have g1 : ((i0 : Int) == -1) = false := by rw [beq_eq_false_iff_ne]; omega
    have w1' : IntKind.i64.wrap ((i0 : Int) + 1) = (i0 : Int) + 1 := IntWalk.i64_in _ (by omega)
    clear h h1 h2 h3 h4 hst
    go_enter Tryd.func60, Tryd.ntmps60
    go_wp2_with fail
    with_reducible refine (index_q HSL.out hok hm hn (i0 : Int) HR).mono ?_
    rintro e w1 ⟨rfl, b1⟩
    have HB1 := Lib.hid (below_trans hu b1)
    have HO1 := Lib.hid (HO.out.below b1)
    have HK1 : Hid (KU u w1) := Lib.hid (K64.below b1)
    clear hu b1
    go_wp2_with fail
    go_loopg [5, 6] n (fun gk s5 s6 wr => DF1 w u g n c L gk s5 s6 wr)
    case atStart => exact ⟨i0, i0 + 1, L, rfl, by go_num, by omega, by omega, by omega, HO1.out.below (by go_grown), HST.out, rfl, HK1.out.below (by go_grown), below_trans HB1.out (by go_grown)⟩
    case round =>
      clear HO1 HB1 HK1
      obtain ⟨i, j, dk, rfl, rfl, hij, hjn, hgk, ho, ht, hd, hku, hB⟩ := hrel
      have HGK := Lib.hid hgk
      have HDL := Lib.hid (ho.eltn elt_vec (by omega))
      by_cases hlt : j < n
      · obtain ⟨x, hx⟩ : ∃ x, L[j]? = some x := ⟨L[j]'(by rw [HL.out]; exact hlt), List.getElem?_eq_getElem _⟩
        obtain ⟨y, hy⟩ : ∃ y, dk[i]? = some y := ⟨dk[i]'(by rw [HDL.out]; omega), List.getElem?_eq_getElem _⟩
        have hxd : dk[j]? = some x := by
          have e1 : (dk.drop j)[0]? = (L.drop j)[0]? := by rw [hd]
          simpa [hx] using e1
        have hfx : FrOk wr m x.x := (hok.out x (List.mem_of_getElem? hx)).k hku
        have hd2 : dk.drop (j + 1) = L.drop (j + 1) := by
          have e1 : (dk.drop j).drop 1 = (L.drop j).drop 1 := by rw [hd]
          simpa [List.drop_drop] using e1
        have HJ := Lib.hid hxd
        have HI := Lib.hid hy
        have i1 : (j : Int) < (n : Int) := by omega
        have i2 : (0 : Int) ≤ (j : Int) := by omega
        have i3 : (0 : Int) ≤ (i : Int) := by omega
        have i4 : (i : Int) < (n : Int) := by omega
        cases hp : nzT x
        · have HP := Lib.hid hp
          have HT2 : Hid (dk.take i = (L.take (j + 1)).filter nzT) := Lib.hid (by rw [filter_snoc hx false hp, if_neg (by simp), ht])
          have HD2 := Lib.hid hd2
          clear hp hx hy hxd hd2 ht hd hgk
          have Bz := Below.refl wr.heap.size wr
          have p50_0 := cell_0 ho HJ.out
          have p50_1 := elt_vec.cell ho HJ.out (j := 1) (u := .bool x.x.s) (by omega) rfl
          have p50_2 := elt_vec.cell ho HJ.out (j := 2) (u := .slice x.x.A x.x.l x.x.c) (by omega) rfl
          have p50_3 := elt_vec.cell ho HJ.out (j := 3) (u := .bool x.x.s') (by omega) rfl
          have p50_4 := elt_vec.cell ho HJ.out (j := 4) (u := .slice x.x.A' x.x.l' x.x.c') (by omega) rfl
          go_upto_region 8 with (fail)
          obtain ⟨V1, hW, x0, hN⟩ := boxes1 wr #[.int .i64 x.at_, .bool x.x.s, .slice x.x.A x.x.l x.x.c, .bool x.x.s', .slice x.x.A' x.x.l' x.x.c'] 81
          rw [← hW]
          clear hW
          obtain ⟨v0, hb0⟩ : ∃ b, b = wr.heap.size := ⟨_, rfl⟩
          rw [← hb0] at x0 ⊢
          have ow_0 : w.heap.size ≤ v0 := by have := hB.size; have := Bz.size; omega
          replace hfx := hfx.below hN
          replace hku := hku.below hN
          replace ho := ho.below hN
          replace hB := below_trans (below_trans hB Bz) hN
          have HX0 := Lib.hid x0
          clear x0 hN Bz hb0
          have Bz := Below.refl V1.heap.size V1
          clear p50_0 p50_1 p50_2 p50_3 p50_4
          have p0_0 := (HX0.out.below Bz).cell 0 (.int .i64 x.at_) rfl
          have p0_1 := (HX0.out.below Bz).cell 1 (.bool x.x.s) rfl
          have p0_2 := (HX0.out.below Bz).cell 2 (.slice x.x.A x.x.l x.x.c) rfl
          have p0_3 := (HX0.out.below Bz).cell 3 (.bool x.x.s') rfl
          have p0_4 := (HX0.out.below Bz).cell 4 (.slice x.x.A' x.x.l' x.x.c') rfl
          go_wp2_with fail
          with_reducible refine (norm2_q (x := x) (FrOk.below hfx (by go_grown)) hm false HP).mono ?_
          rintro e w1 ⟨rfl, b1⟩
          replace b1 := below_trans (a := V1) (by go_grown) b1
          replace hku := hku.below b1
          replace ho := ho.below b1
          replace Bz := below_trans Bz b1
          clear b1
          clear p0_0 p0_1 p0_2 p0_3 p0_4
          go_wp2_with fail
          go_roundg (n - (j + 1))
          case measure => have := HGK.out; omega
          case rel => exact ⟨i, j + 1, dk, rfl, by go_num, by omega, by omega, Nat.le_refl _, OwnR.below ho (by go_grown), HT2.out, HD2.out, KU.below hku (by go_grown), below_trans (below_trans hB Bz) (by go_grown)⟩
        · have HP := Lib.hid hp
          have HT2 : Hid ((dk.set i x).take (i + 1) = (L.take (j + 1)).filter nzT) := Lib.hid (by
            rw [filter_snoc hx true hp, if_pos rfl, take_snoc (x := x) (by rw [List.getElem?_set_self (by rw [HDL.out]; omega)]), List.take_set_of_le (Nat.le_refl i), ht])
          have HD2 : Hid ((dk.set i x).drop (j + 1) = L.drop (j + 1)) := Lib.hid (by rw [List.drop_set_of_lt (by omega), hd2])
          clear hp hx hy hxd hd2 ht hd hgk
          have Bz := Below.refl wr.heap.size wr
          have p50_0 := cell_0 ho HJ.out
          have p50_1 := elt_vec.cell ho HJ.out (j := 1) (u := .bool x.x.s) (by omega) rfl
          have p50_2 := elt_vec.cell ho HJ.out (j := 2) (u := .slice x.x.A x.x.l x.x.c) (by omega) rfl
          have p50_3 := elt_vec.cell ho HJ.out (j := 3) (u := .bool x.x.s') (by omega) rfl
          have p50_4 := elt_vec.cell ho HJ.out (j := 4) (u := .slice x.x.A' x.x.l' x.x.c') (by omega) rfl
          go_upto_region 8 with (fail)
          obtain ⟨V1, hW, x0, hN⟩ := boxes1 wr #[.int .i64 x.at_, .bool x.x.s, .slice x.x.A x.x.l x.x.c, .bool x.x.s', .slice x.x.A' x.x.l' x.x.c'] 81
          rw [← hW]
          clear hW
          obtain ⟨v0, hb0⟩ : ∃ b, b = wr.heap.size := ⟨_, rfl⟩
          rw [← hb0] at x0 ⊢
          have ow_0 : w.heap.size ≤ v0 := by have := hB.size; have := Bz.size; omega
          replace hfx := hfx.below hN
          replace hku := hku.below hN
          replace ho := ho.below hN
          replace hB := below_trans (below_trans hB Bz) hN
          have HX0 := Lib.hid x0
          clear x0 hN Bz hb0
          have Bz := Below.refl V1.heap.size V1
          clear p50_0 p50_1 p50_2 p50_3 p50_4
          have p0_0 := (HX0.out.below Bz).cell 0 (.int .i64 x.at_) rfl
          have p0_1 := (HX0.out.below Bz).cell 1 (.bool x.x.s) rfl
          have p0_2 := (HX0.out.below Bz).cell 2 (.slice x.x.A x.x.l x.x.c) rfl
          have p0_3 := (HX0.out.below Bz).cell 3 (.bool x.x.s') rfl
          have p0_4 := (HX0.out.below Bz).cell 4 (.slice x.x.A' x.x.l' x.x.c') rfl
          go_wp2_with fail
          with_reducible refine (norm2_q (x := x) (FrOk.below hfx (by go_grown)) hm true HP).mono ?_
          rintro e w1 ⟨rfl, b1⟩
          replace b1 := below_trans (a := V1) (by go_grown) b1
          replace hku := hku.below b1
          replace ho := ho.below b1
          replace Bz := below_trans Bz b1
          clear b1
          clear p0_0 p0_1 p0_2 p0_3 p0_4
          have p0_0 := (HX0.out.below Bz).cell 0 (.int .i64 x.at_) rfl
          have p0_1 := (HX0.out.below Bz).cell 1 (.bool x.x.s) rfl
          have p0_2 := (HX0.out.below Bz).cell 2 (.slice x.x.A x.x.l x.x.c) rfl
          have p0_3 := (HX0.out.below Bz).cell 3 (.bool x.x.s') rfl
          have p0_4 := (HX0.out.below Bz).cell 4 (.slice x.x.A' x.x.l' x.x.c') rfl
          have p51_0 := cell_0 ho HI.out
          have p51_1 := elt_vec.cell ho HI.out (j := 1) (u := .bool y.x.s) (by omega) rfl
          have p51_2 := elt_vec.cell ho HI.out (j := 2) (u := .slice y.x.A y.x.l y.x.c) (by omega) rfl
          have p51_3 := elt_vec.cell ho HI.out (j := 3) (u := .bool y.x.s') (by omega) rfl
          have p51_4 := elt_vec.cell ho HI.out (j := 4) (u := .slice y.x.A' y.x.l' y.x.c') (by omega) rfl
          have f51_0 := ho.frozen (i * 5)
          have f51_1 := ho.frozen (i * 5 + 1)
          have f51_2 := ho.frozen (i * 5 + 2)
          have f51_3 := ho.frozen (i * 5 + 3)
          have f51_4 := ho.frozen (i * 5 + 4)
          have y51 := ho.blk.1
          go_upto_region 10 with (fail)
          obtain ⟨V2, hV, ho2, hg2⟩ := tm_store elt_vec ho HI.out x
          rw [← hV]
          clear hV
          replace hB := (below_trans hB Bz).trans (hg2.below (by have := hB.size; have := Bz.size; omega) (fun g' hg' => ho.base g' hg'))
          clear HX0
          replace hku := hku.k hg2.k
          clear ho
          have ho := ho2
          clear ho2 hg2 Bz
          have Bz := Below.refl V2.heap.size V2
          clear p0_0 p0_1 p0_2 p0_3 p0_4 p51_0 p51_1 p51_2 p51_3 p51_4 f51_0 f51_1 f51_2 f51_3 f51_4 y51
          go_wp2_with fail
          go_roundg (n - (j + 1))
          case measure => have := HGK.out; omega
          case rel => exact ⟨i + 1, j + 1, dk.set i x, by go_num, by go_num, by omega, by omega, Nat.le_refl _, OwnR.below ho (by go_grown), HT2.out, HD2.out, KU.below hku (by go_grown), below_trans (below_trans hB Bz) (by go_grown)⟩
      · obtain rfl : j = n := by omega
        have i1 : ¬ (j : Int) < (j : Int) := by omega
        have hzl := zs_len (z := Value.agg #[.int .i64 0, .bool false, .slice none 0 0, .bool false, .slice none 0 0]) (k := 5) rfl (j - i)
        have hj5 : i * 5 + (j - i) * 5 = j * 5 := by omega
        have hcell : ∀ q, q < (j - i) * 5 → (wr.cell? ⟨g, i * 5 + q, none⟩).isSome = true := fun q hq => by
          have hlt5 : i * 5 + q < (flat Tm.cs dk).length := by rw [flat_len Tm.cs_len, HDL.out]; omega
          rw [ho.cell (List.getElem?_eq_getElem hlt5)]; rfl
        have hcl : ∀ ty, (Builtin.clear_ #[61] ty #[.slice (some ⟨g, i * 5, none⟩) (j - i) (c - i)]).run Tryd.prog wr = .ok (.tuple #[]) (wr.setCells g (i * 5) (Builtin.zeroCells (Value.agg #[.int .i64 0, .bool false, .slice none 0 0, .bool false, .slice none 0 0]).cells (j - i)).toList) :=
          fun ty => run_clear_cells wr 61 81 ty _ Tryd.underlying61 (fun _ => rfl) (fun u hu => (zero_nou u hu).2) g (i * 5) (c - i) (by omega) (fun q hq => hcell q (by rw [hzl] at hq; exact hq)) (fun q _ => ho.frozen _)
        have ht2 := own_tail ho (Nat.le_of_lt hij) (Builtin.zeroCells (Value.agg #[.int .i64 0, .bool false, .slice none 0 0, .bool false, .slice none 0 0]).cells (j - i)).toList (fun u hu => (zero_nou u hu).1)
        rw [flat_take Tm.cs_len, ht, List.take_of_length_le (by rw [HL.out]; exact Nat.le_refl _)] at ht2
        have HT2 := Lib.hid ht2
        have HBG := Lib.hid (ht2.2.below hB.size (fun g' hg' => ho.base g' hg'))
        have i5 : (0 : Int) ≤ (i : Int) := by omega
        have i6 : (i : Int) ≤ (j : Int) := by omega
        have i7 : (i : Int) ≤ (c : Int) := by omega
        clear ht hd ht2 hcell hzl hj5 ho
        go_wp2_with fail
        go_ret
        exact ⟨i, rfl, HT2.out.1.below (Below.refl _ _), (hku.k HT2.out.2.k).below (Below.refl _ _), below_trans (hB.trans HBG.out) (Below.refl _ _)⟩
end Go.Proofs.YtionhpangenhnaaDoor
