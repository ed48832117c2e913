/-
  Does something hold of each one of a slice? shapes.all, with closures that keep nothing. Written by wip/gen/sh3.py.
-/
import Derived.Test.YtionhpangenhnaaDoorSh2
namespace Go.Proofs.YtionhpangenhnaaDoor
open Go.RowKit Tw

/-- A state of the loop of all. -/
def AL1 {α : Type} (w : World) (L : List α) (p : α → Bool) (n gk : Nat) (s : Value) (wr : World) : Prop := ∃ i : Nat, i ≤ n ∧ n - i = gk ∧ s = .int .i64 (i : Int) ∧ Below w.heap.size w wr ∧ (L.take i).all p = true
theorem take_all {α : Type} {L : List α} {p : α → Bool} {i : Nat} {x : α} (h : (L.take i).all p = true) (hx : L[i]? = some x) (hp : p x = true) : (L.take (i + 1)).all p = true := by
  rw [List.take_add_one, List.all_append, h, hx]; simp [hp]
theorem all_no {α : Type} {L : List α} {p : α → Bool} {i : Nat} {x : α} (hx : L[i]? = some x) (hp : p x = false) : L.all p = false := by
  rw [List.all_eq_false]; exact ⟨x, List.mem_of_getElem? hx, by rw [hp]; simp⟩
theorem all_yes {α : Type} {L : List α} {p : α → Bool} {n : Nat} (hl : L.length = n) (h : (L.take n).all p = true) : L.all p = true := by rwa [List.take_of_length_le (by omega)] at h
/-- A whole number's cell. -/
def ics (z : Int) : List Value := [.int .i64 z]
theorem ics_len (z : Int) : (ics z).length = 1 := rfl
set_option maxRecDepth 100000 in
set_option maxHeartbeats 4000000 in
theorem plain1_q {w : World} (z : Int) (t : Bool) (ht : Hid (decide (z = 0) = t)) : Calls Tryd.prog 126 #[.int .i64 z] w fun e w' => e = .returned (.bool t) ∧ Below w.heap.size w w' := by
  have g1 : (z == 0) = t := by rw [← ht.out]; rfl
  clear ht
  go_enter Tryd.func126, Tryd.ntmps126
  go_wp2_with fail
  go_ret
  exact ⟨rfl, by go_grown⟩
set_option maxRecDepth 100000 in
set_option maxHeartbeats 4000000 in
theorem conv1_q {w : World} (z : Int) (t : Bool) (ht : Hid ((decide (1 ≤ z) && decide (z ≤ 256)) = t)) : Calls Tryd.prog 124 #[.int .i64 z] w fun e w' => e = .returned (.bool t) ∧ Below w.heap.size w w' := by
  cases h1 : decide (1 ≤ z)
  · obtain rfl : t = false := by rw [← ht.out, h1]; rfl
    clear ht
    go_enter Tryd.func124, Tryd.ntmps124
    go_wp2_with fail
    go_ret
    exact ⟨rfl, by go_grown⟩
  · have g1 : decide (z ≤ 256) = t := by rw [← ht.out, h1]; rfl
    clear ht
    go_enter Tryd.func124, Tryd.ntmps124
    go_wp2_with fail
    go_ret
    exact ⟨rfl, by go_grown⟩
set_option maxRecDepth 100000 in
set_option maxHeartbeats 4000000 in
theorem affine2_q {w : World} {m : Nat} {x : Fr} (h : FrOk w m x) (hm : m ≤ 40000) (t : Bool) (ht : Hid (x.ex = t)) (hT : Hid (Tab w)) : Calls Tryd.prog 122 #[.agg #[.bool x.s, .slice x.A x.l x.c, .bool x.s', .slice x.A' x.l' x.c']] w fun e w' => e = .returned (.bool t) ∧ Below w.heap.size w w' := by
  obtain ⟨W, hW, x0, hB⟩ := boxes1 w #[.bool x.s, .slice x.A x.l x.c, .bool x.s', .slice x.A' x.l' x.c'] 27
  replace h := h.below hB
  have HX0 := Lib.hid x0
  clear x0
  have Bz := Below.refl W.heap.size W
  have p0_0 := (HX0.out.below Bz).cell 0 (.bool x.s) rfl
  have p0_1 := (HX0.out.below Bz).cell 1 (.slice x.A x.l x.c) rfl
  have p0_2 := (HX0.out.below Bz).cell 2 (.bool x.s') rfl
  have p0_3 := (HX0.out.below Bz).cell 3 (.slice x.A' x.l' x.c') rfl
  go_enter Tryd.func122, Tryd.ntmps122
  go_wp2_with fail
  rw [← hW]
  clear hW
  go_wp2_with fail
  with_reducible refine (exact_sh (FrOk.below h (by go_grown)) (by omega) t ht (Lib.hid (Tab.below hT.out (below_trans hB (below_trans (b := W) Bz (by go_grown)))))).mono ?_
  rintro e w1 ⟨rfl, b1⟩
  replace b1 := below_trans (a := W) (by go_grown) b1
  replace Bz := below_trans Bz b1
  clear b1
  clear p0_0 p0_1 p0_2 p0_3
  go_wp2_with fail
  go_ret
  have hF := below_trans (c := w1) hB Bz
  exact ⟨rfl, below_trans hF (by go_grown)⟩
set_option maxRecDepth 100000 in
set_option maxHeartbeats 4000000 in
theorem conv2_q {w : World} {m : Nat} {x : Fr} (h : FrOk w m x) (hm : m ≤ 40000) (t : Bool) (ht : Hid (x.ex = t)) (hT : Hid (Tab w)) : Calls Tryd.prog 125 #[.agg #[.bool x.s, .slice x.A x.l x.c, .bool x.s', .slice x.A' x.l' x.c']] w fun e w' => e = .returned (.bool t) ∧ Below w.heap.size w w' := by
  obtain ⟨W, hW, x0, hB⟩ := boxes1 w #[.bool x.s, .slice x.A x.l x.c, .bool x.s', .slice x.A' x.l' x.c'] 27
  replace h := h.below hB
  have HX0 := Lib.hid x0
  clear x0
  have Bz := Below.refl W.heap.size W
  have p0_0 := (HX0.out.below Bz).cell 0 (.bool x.s) rfl
  have p0_1 := (HX0.out.below Bz).cell 1 (.slice x.A x.l x.c) rfl
  have p0_2 := (HX0.out.below Bz).cell 2 (.bool x.s') rfl
  have p0_3 := (HX0.out.below Bz).cell 3 (.slice x.A' x.l' x.c') rfl
  go_enter Tryd.func125, Tryd.ntmps125
  go_wp2_with fail
  rw [← hW]
  clear hW
  go_wp2_with fail
  with_reducible refine (exact_sh (FrOk.below h (by go_grown)) (by omega) t ht (Lib.hid (Tab.below hT.out (below_trans hB (below_trans (b := W) Bz (by go_grown)))))).mono ?_
  rintro e w1 ⟨rfl, b1⟩
  replace b1 := below_trans (a := W) (by go_grown) b1
  replace Bz := below_trans Bz b1
  clear b1
  clear p0_0 p0_1 p0_2 p0_3
  go_wp2_with fail
  go_ret
  have hF := below_trans (c := w1) hB Bz
  exact ⟨rfl, below_trans hF (by go_grown)⟩
set_option maxRecDepth 100000 in
set_option maxHeartbeats 4000000 in
theorem query11_q {w : World} {m : Nat} {x : Fr} (h : FrOk w m x) (hm : m ≤ 40000) (t : Bool) (ht : Hid (x.ex = t)) (hT : Hid (Tab w)) : Calls Tryd.prog 44 #[.agg #[.bool x.s, .slice x.A x.l x.c, .bool x.s', .slice x.A' x.l' x.c']] w fun e w' => e = .returned (.bool t) ∧ Below w.heap.size w w' := by
  obtain ⟨W, hW, x0, hB⟩ := boxes1 w #[.bool x.s, .slice x.A x.l x.c, .bool x.s', .slice x.A' x.l' x.c'] 27
  replace h := h.below hB
  have HX0 := Lib.hid x0
  clear x0
  have Bz := Below.refl W.heap.size W
  have p0_0 := (HX0.out.below Bz).cell 0 (.bool x.s) rfl
  have p0_1 := (HX0.out.below Bz).cell 1 (.slice x.A x.l x.c) rfl
  have p0_2 := (HX0.out.below Bz).cell 2 (.bool x.s') rfl
  have p0_3 := (HX0.out.below Bz).cell 3 (.slice x.A' x.l' x.c') rfl
  go_enter Tryd.func44, Tryd.ntmps44
  go_wp2_with fail
  rw [← hW]
  clear hW
  go_wp2_with fail
  with_reducible refine (exact_sh (FrOk.below h (by go_grown)) (by omega) t ht (Lib.hid (Tab.below hT.out (below_trans hB (below_trans (b := W) Bz (by go_grown)))))).mono ?_
  rintro e w1 ⟨rfl, b1⟩
  replace b1 := below_trans (a := W) (by go_grown) b1
  replace Bz := below_trans Bz b1
  clear b1
  clear p0_0 p0_1 p0_2 p0_3
  go_wp2_with fail
  go_ret
  have hF := below_trans (c := w1) hB Bz
  exact ⟨rfl, below_trans hF (by go_grown)⟩
set_option maxRecDepth 100000 in
set_option maxHeartbeats 4000000 in
theorem all_plain {w : World} {A : Option Addr} {n c : Nat} {L : List Int} (h : Sl ics 1 w A n c L) (hn : n ≤ 1000000000) (r : Bool) (hr : Hid (L.all (fun z => decide (z = 0)) = r)) :
    Calls Tryd.prog 123 #[.slice A n c, .func (.func 126) #[] #[]] w fun e w' => e = .returned (.bool r) ∧ Below w.heap.size w w' := by
  have H := Lib.hid h
  have HLN := Lib.hid h.1
  have hst : AL1 w L (fun z => decide (z = 0)) n n (.int .i64 ((0 : Nat) : Int)) w := ⟨0, Nat.zero_le _, rfl, rfl, Below.refl _ _, by simp⟩
  have HST := Lib.hid hst
  clear h hst
  go_enter Tryd.func123, Tryd.ntmps123
  go_wp2_with fail
  go_loopg [9] n (fun gk s wr => AL1 w L (fun z => decide (z = 0)) n gk s wr)
  case atStart => exact HST.out
  case round =>
    clear HST
    obtain ⟨i, hi, hgk, rfl, hB, hd⟩ := hrel
    have HGK := Lib.hid hgk
    have HD := Lib.hid hd
    clear hgk hd
    by_cases hlt : i < n
    · obtain ⟨b, off, rfl, hel⟩ := H.out.at ics_len (by omega) (by omega)
      obtain ⟨x, hx⟩ : ∃ x, L[i]? = some x := ⟨L[i]'(by rw [HLN.out]; exact hlt), List.getElem?_eq_getElem _⟩
      have hnd : ElA w b (off + i) (ics x) := by have := hel i x hx; rwa [Nat.mul_one] at this
      have HTI := Lib.hid hx
      have i1 : (i : Int) < (n : Int) := by omega
      have i2 : (0 : Int) ≤ (i : Int) := by omega
      clear hx hel
      cases hp : (fun z => decide (z = 0)) x
      · have HP := Lib.hid hp
        clear hp
        have Bz := Below.refl wr.heap.size wr
        have p50_0 := (hnd.below (below_trans hB Bz)).c0 (u := .int .i64 x) rfl
        go_wp2_with fail
        with_reducible refine (plain1_q x false HP).mono ?_
        rintro e w1 ⟨rfl, b1⟩
        replace b1 := below_trans (a := wr) (by go_grown) b1
        replace Bz := below_trans Bz b1
        clear b1
        clear p50_0
        go_wp2_with fail
        go_ret
        have hF := below_trans (c := w1) hB Bz
        obtain rfl : r = false := by rw [← hr.out]; exact all_no HTI.out HP.out
        exact ⟨rfl, below_trans (below_trans hB Bz) (by go_grown)⟩
      · have HP := Lib.hid hp
        clear hp
        have Bz := Below.refl wr.heap.size wr
        have p50_0 := (hnd.below (below_trans hB Bz)).c0 (u := .int .i64 x) rfl
        go_wp2_with fail
        with_reducible refine (plain1_q x true HP).mono ?_
        rintro e w1 ⟨rfl, b1⟩
        replace b1 := below_trans (a := wr) (by go_grown) b1
        replace Bz := below_trans Bz b1
        clear b1
        clear p50_0
        go_wp2_with fail
        go_roundg (n - (i + 1))
        case measure => have := HGK.out; omega
        case rel => exact ⟨i + 1, by omega, rfl, by go_num, below_trans (below_trans hB Bz) (by go_grown), take_all HD.out HTI.out HP.out⟩
    · obtain rfl : i = n := by omega
      have i1 : ¬ (i : Int) < (i : Int) := by omega
      obtain rfl : r = true := by rw [← hr.out]; exact all_yes HLN.out HD.out
      go_wp2_with fail
      go_ret
      exact ⟨rfl, hB⟩
set_option maxRecDepth 100000 in
set_option maxHeartbeats 4000000 in
theorem all_conv {w : World} {A : Option Addr} {n c : Nat} {L : List Int} (h : Sl ics 1 w A n c L) (hn : n ≤ 1000000000) (r : Bool) (hr : Hid (L.all (fun z => decide (1 ≤ z) && decide (z ≤ 256)) = r)) :
    Calls Tryd.prog 123 #[.slice A n c, .func (.func 124) #[] #[]] w fun e w' => e = .returned (.bool r) ∧ Below w.heap.size w w' := by
  have H := Lib.hid h
  have HLN := Lib.hid h.1
  have hst : AL1 w L (fun z => decide (1 ≤ z) && decide (z ≤ 256)) n n (.int .i64 ((0 : Nat) : Int)) w := ⟨0, Nat.zero_le _, rfl, rfl, Below.refl _ _, by simp⟩
  have HST := Lib.hid hst
  clear h hst
  go_enter Tryd.func123, Tryd.ntmps123
  go_wp2_with fail
  go_loopg [9] n (fun gk s wr => AL1 w L (fun z => decide (1 ≤ z) && decide (z ≤ 256)) n gk s wr)
  case atStart => exact HST.out
  case round =>
    clear HST
    obtain ⟨i, hi, hgk, rfl, hB, hd⟩ := hrel
    have HGK := Lib.hid hgk
    have HD := Lib.hid hd
    clear hgk hd
    by_cases hlt : i < n
    · obtain ⟨b, off, rfl, hel⟩ := H.out.at ics_len (by omega) (by omega)
      obtain ⟨x, hx⟩ : ∃ x, L[i]? = some x := ⟨L[i]'(by rw [HLN.out]; exact hlt), List.getElem?_eq_getElem _⟩
      have hnd : ElA w b (off + i) (ics x) := by have := hel i x hx; rwa [Nat.mul_one] at this
      have HTI := Lib.hid hx
      have i1 : (i : Int) < (n : Int) := by omega
      have i2 : (0 : Int) ≤ (i : Int) := by omega
      clear hx hel
      cases hp : (fun z => decide (1 ≤ z) && decide (z ≤ 256)) x
      · have HP := Lib.hid hp
        clear hp
        have Bz := Below.refl wr.heap.size wr
        have p50_0 := (hnd.below (below_trans hB Bz)).c0 (u := .int .i64 x) rfl
        go_wp2_with fail
        with_reducible refine (conv1_q x false HP).mono ?_
        rintro e w1 ⟨rfl, b1⟩
        replace b1 := below_trans (a := wr) (by go_grown) b1
        replace Bz := below_trans Bz b1
        clear b1
        clear p50_0
        go_wp2_with fail
        go_ret
        have hF := below_trans (c := w1) hB Bz
        obtain rfl : r = false := by rw [← hr.out]; exact all_no HTI.out HP.out
        exact ⟨rfl, below_trans (below_trans hB Bz) (by go_grown)⟩
      · have HP := Lib.hid hp
        clear hp
        have Bz := Below.refl wr.heap.size wr
        have p50_0 := (hnd.below (below_trans hB Bz)).c0 (u := .int .i64 x) rfl
        go_wp2_with fail
        with_reducible refine (conv1_q x true HP).mono ?_
        rintro e w1 ⟨rfl, b1⟩
        replace b1 := below_trans (a := wr) (by go_grown) b1
        replace Bz := below_trans Bz b1
        clear b1
        clear p50_0
        go_wp2_with fail
        go_roundg (n - (i + 1))
        case measure => have := HGK.out; omega
        case rel => exact ⟨i + 1, by omega, rfl, by go_num, below_trans (below_trans hB Bz) (by go_grown), take_all HD.out HTI.out HP.out⟩
    · obtain rfl : i = n := by omega
      have i1 : ¬ (i : Int) < (i : Int) := by omega
      obtain rfl : r = true := by rw [← hr.out]; exact all_yes HLN.out HD.out
      go_wp2_with fail
      go_ret
      exact ⟨rfl, hB⟩
set_option maxRecDepth 100000 in
set_option maxHeartbeats 4000000 in
theorem all_affine2 {w : World} {A : Option Addr} {n c m : Nat} {L : List Fr} (h : Sl Fr.cs 4 w A n c L) (hok : Hid (∀ x ∈ L, FrOk w m x)) (hm : m ≤ 40000) (hT : Hid (Tab w)) (hn : n ≤ 1000000000) (r : Bool) (hr : Hid (L.all (fun x => x.ex) = r)) :
    Calls Tryd.prog 43 #[.slice A n c, .func (.func 122) #[] #[]] w fun e w' => e = .returned (.bool r) ∧ Below w.heap.size w w' := by
  have H := Lib.hid h
  have HLN := Lib.hid h.1
  have hst : AL1 w L (fun x => x.ex) n n (.int .i64 ((0 : Nat) : Int)) w := ⟨0, Nat.zero_le _, rfl, rfl, Below.refl _ _, by simp⟩
  have HST := Lib.hid hst
  clear h hst
  go_enter Tryd.func43, Tryd.ntmps43
  go_wp2_with fail
  go_loopg [9] n (fun gk s wr => AL1 w L (fun x => x.ex) n gk s wr)
  case atStart => exact HST.out
  case round =>
    clear HST
    obtain ⟨i, hi, hgk, rfl, hB, hd⟩ := hrel
    have HGK := Lib.hid hgk
    have HD := Lib.hid hd
    clear hgk hd
    by_cases hlt : i < n
    · obtain ⟨b, off, rfl, hel⟩ := H.out.at Fr.cs_len (by omega) (by omega)
      obtain ⟨x, hx⟩ : ∃ x, L[i]? = some x := ⟨L[i]'(by rw [HLN.out]; exact hlt), List.getElem?_eq_getElem _⟩
      have hnd := hel i x hx
      have HTI := Lib.hid hx
      have hfr := (hok.out x (List.mem_of_getElem? hx)).below hB
      have i1 : (i : Int) < (n : Int) := by omega
      have i2 : (0 : Int) ≤ (i : Int) := by omega
      clear hx hel
      cases hp : (fun x => x.ex) x
      · have HP := Lib.hid hp
        clear hp
        have Bz := Below.refl wr.heap.size wr
        have p50_0 := (hnd.below (below_trans hB Bz)).c0 (u := .bool x.s) rfl
        have p50_1 := (hnd.below (below_trans hB Bz)).at 1 (.slice x.A x.l x.c) rfl
        have p50_2 := (hnd.below (below_trans hB Bz)).at 2 (.bool x.s') rfl
        have p50_3 := (hnd.below (below_trans hB Bz)).at 3 (.slice x.A' x.l' x.c') rfl
        go_upto_region 4 with (fail)
        obtain ⟨V1, hW, x0, hN⟩ := boxes1 wr #[.bool x.s, .slice x.A x.l x.c, .bool x.s', .slice x.A' x.l' x.c'] 27
        rw [← hW]
        clear hW
        obtain ⟨v0, hb0⟩ : ∃ b, b = wr.heap.size := ⟨_, rfl⟩
        rw [← hb0] at x0 ⊢
        have ow_0 : w.heap.size ≤ v0 := by have := hB.size; have := Bz.size; omega
        replace hfr := hfr.below hN
        replace hB := below_trans (below_trans hB Bz) hN
        have HX0 := Lib.hid x0
        clear x0 hN Bz hb0
        have Bz := Below.refl V1.heap.size V1
        clear p50_0 p50_1 p50_2 p50_3
        have p0_0 := (HX0.out.below Bz).cell 0 (.bool x.s) rfl
        have p0_1 := (HX0.out.below Bz).cell 1 (.slice x.A x.l x.c) rfl
        have p0_2 := (HX0.out.below Bz).cell 2 (.bool x.s') rfl
        have p0_3 := (HX0.out.below Bz).cell 3 (.slice x.A' x.l' x.c') rfl
        go_wp2_with fail
        with_reducible refine (affine2_q (FrOk.below hfr (by go_grown)) (by omega) false HP (Lib.hid (Tab.below hT.out (below_trans hB (below_trans (b := V1) Bz (by go_grown)))))).mono ?_
        rintro e w1 ⟨rfl, b1⟩
        replace b1 := below_trans (a := V1) (by go_grown) b1
        replace Bz := below_trans Bz b1
        clear b1
        clear p0_0 p0_1 p0_2 p0_3
        go_wp2_with fail
        go_ret
        have hF := below_trans (c := w1) hB Bz
        obtain rfl : r = false := by rw [← hr.out]; exact all_no HTI.out HP.out
        exact ⟨rfl, below_trans (below_trans hB Bz) (by go_grown)⟩
      · have HP := Lib.hid hp
        clear hp
        have Bz := Below.refl wr.heap.size wr
        have p50_0 := (hnd.below (below_trans hB Bz)).c0 (u := .bool x.s) rfl
        have p50_1 := (hnd.below (below_trans hB Bz)).at 1 (.slice x.A x.l x.c) rfl
        have p50_2 := (hnd.below (below_trans hB Bz)).at 2 (.bool x.s') rfl
        have p50_3 := (hnd.below (below_trans hB Bz)).at 3 (.slice x.A' x.l' x.c') rfl
        go_upto_region 4 with (fail)
        obtain ⟨V1, hW, x0, hN⟩ := boxes1 wr #[.bool x.s, .slice x.A x.l x.c, .bool x.s', .slice x.A' x.l' x.c'] 27
        rw [← hW]
        clear hW
        obtain ⟨v0, hb0⟩ : ∃ b, b = wr.heap.size := ⟨_, rfl⟩
        rw [← hb0] at x0 ⊢
        have ow_0 : w.heap.size ≤ v0 := by have := hB.size; have := Bz.size; omega
        replace hfr := hfr.below hN
        replace hB := below_trans (below_trans hB Bz) hN
        have HX0 := Lib.hid x0
        clear x0 hN Bz hb0
        have Bz := Below.refl V1.heap.size V1
        clear p50_0 p50_1 p50_2 p50_3
        have p0_0 := (HX0.out.below Bz).cell 0 (.bool x.s) rfl
        have p0_1 := (HX0.out.below Bz).cell 1 (.slice x.A x.l x.c) rfl
        have p0_2 := (HX0.out.below Bz).cell 2 (.bool x.s') rfl
        have p0_3 := (HX0.out.below Bz).cell 3 (.slice x.A' x.l' x.c') rfl
        go_wp2_with fail
        with_reducible refine (affine2_q (FrOk.below hfr (by go_grown)) (by omega) true HP (Lib.hid (Tab.below hT.out (below_trans hB (below_trans (b := V1) Bz (by go_grown)))))).mono ?_
        rintro e w1 ⟨rfl, b1⟩
        replace b1 := below_trans (a := V1) (by go_grown) b1
        replace Bz := below_trans Bz b1
        clear b1
        clear p0_0 p0_1 p0_2 p0_3
        go_wp2_with fail
        go_roundg (n - (i + 1))
        case measure => have := HGK.out; omega
        case rel => exact ⟨i + 1, by omega, rfl, by go_num, below_trans (below_trans hB Bz) (by go_grown), take_all HD.out HTI.out HP.out⟩
    · obtain rfl : i = n := by omega
      have i1 : ¬ (i : Int) < (i : Int) := by omega
      obtain rfl : r = true := by rw [← hr.out]; exact all_yes HLN.out HD.out
      go_wp2_with fail
      go_ret
      exact ⟨rfl, hB⟩
set_option maxRecDepth 100000 in
set_option maxHeartbeats 4000000 in
theorem all_conv2 {w : World} {A : Option Addr} {n c m : Nat} {L : List Fr} (h : Sl Fr.cs 4 w A n c L) (hok : Hid (∀ x ∈ L, FrOk w m x)) (hm : m ≤ 40000) (hT : Hid (Tab w)) (hn : n ≤ 1000000000) (r : Bool) (hr : Hid (L.all (fun x => x.ex) = r)) :
    Calls Tryd.prog 43 #[.slice A n c, .func (.func 125) #[] #[]] w fun e w' => e = .returned (.bool r) ∧ Below w.heap.size w w' := by
  have H := Lib.hid h
  have HLN := Lib.hid h.1
  have hst : AL1 w L (fun x => x.ex) n n (.int .i64 ((0 : Nat) : Int)) w := ⟨0, Nat.zero_le _, rfl, rfl, Below.refl _ _, by simp⟩
  have HST := Lib.hid hst
  clear h hst
  go_enter Tryd.func43, Tryd.ntmps43
  go_wp2_with fail
  go_loopg [9] n (fun gk s wr => AL1 w L (fun x => x.ex) n gk s wr)
  case atStart => exact HST.out
  case round =>
    clear HST
    obtain ⟨i, hi, hgk, rfl, hB, hd⟩ := hrel
    have HGK := Lib.hid hgk
    have HD := Lib.hid hd
    clear hgk hd
    by_cases hlt : i < n
    · obtain ⟨b, off, rfl, hel⟩ := H.out.at Fr.cs_len (by omega) (by omega)
      obtain ⟨x, hx⟩ : ∃ x, L[i]? = some x := ⟨L[i]'(by rw [HLN.out]; exact hlt), List.getElem?_eq_getElem _⟩
      have hnd := hel i x hx
      have HTI := Lib.hid hx
      have hfr := (hok.out x (List.mem_of_getElem? hx)).below hB
      have i1 : (i : Int) < (n : Int) := by omega
      have i2 : (0 : Int) ≤ (i : Int) := by omega
      clear hx hel
      cases hp : (fun x => x.ex) x
      · have HP := Lib.hid hp
        clear hp
        have Bz := Below.refl wr.heap.size wr
        have p50_0 := (hnd.below (below_trans hB Bz)).c0 (u := .bool x.s) rfl
        have p50_1 := (hnd.below (below_trans hB Bz)).at 1 (.slice x.A x.l x.c) rfl
        have p50_2 := (hnd.below (below_trans hB Bz)).at 2 (.bool x.s') rfl
        have p50_3 := (hnd.below (below_trans hB Bz)).at 3 (.slice x.A' x.l' x.c') rfl
        go_upto_region 4 with (fail)
        obtain ⟨V1, hW, x0, hN⟩ := boxes1 wr #[.bool x.s, .slice x.A x.l x.c, .bool x.s', .slice x.A' x.l' x.c'] 27
        rw [← hW]
        clear hW
        obtain ⟨v0, hb0⟩ : ∃ b, b = wr.heap.size := ⟨_, rfl⟩
        rw [← hb0] at x0 ⊢
        have ow_0 : w.heap.size ≤ v0 := by have := hB.size; have := Bz.size; omega
        replace hfr := hfr.below hN
        replace hB := below_trans (below_trans hB Bz) hN
        have HX0 := Lib.hid x0
        clear x0 hN Bz hb0
        have Bz := Below.refl V1.heap.size V1
        clear p50_0 p50_1 p50_2 p50_3
        have p0_0 := (HX0.out.below Bz).cell 0 (.bool x.s) rfl
        have p0_1 := (HX0.out.below Bz).cell 1 (.slice x.A x.l x.c) rfl
        have p0_2 := (HX0.out.below Bz).cell 2 (.bool x.s') rfl
        have p0_3 := (HX0.out.below Bz).cell 3 (.slice x.A' x.l' x.c') rfl
        go_wp2_with fail
        with_reducible refine (conv2_q (FrOk.below hfr (by go_grown)) (by omega) false HP (Lib.hid (Tab.below hT.out (below_trans hB (below_trans (b := V1) Bz (by go_grown)))))).mono ?_
        rintro e w1 ⟨rfl, b1⟩
        replace b1 := below_trans (a := V1) (by go_grown) b1
        replace Bz := below_trans Bz b1
        clear b1
        clear p0_0 p0_1 p0_2 p0_3
        go_wp2_with fail
        go_ret
        have hF := below_trans (c := w1) hB Bz
        obtain rfl : r = false := by rw [← hr.out]; exact all_no HTI.out HP.out
        exact ⟨rfl, below_trans (below_trans hB Bz) (by go_grown)⟩
      · have HP := Lib.hid hp
        clear hp
        have Bz := Below.refl wr.heap.size wr
        have p50_0 := (hnd.below (below_trans hB Bz)).c0 (u := .bool x.s) rfl
        have p50_1 := (hnd.below (below_trans hB Bz)).at 1 (.slice x.A x.l x.c) rfl
        have p50_2 := (hnd.below (below_trans hB Bz)).at 2 (.bool x.s') rfl
        have p50_3 := (hnd.below (below_trans hB Bz)).at 3 (.slice x.A' x.l' x.c') rfl
        go_upto_region 4 with (fail)
        obtain ⟨V1, hW, x0, hN⟩ := boxes1 wr #[.bool x.s, .slice x.A x.l x.c, .bool x.s', .slice x.A' x.l' x.c'] 27
        rw [← hW]
        clear hW
        obtain ⟨v0, hb0⟩ : ∃ b, b = wr.heap.size := ⟨_, rfl⟩
        rw [← hb0] at x0 ⊢
        have ow_0 : w.heap.size ≤ v0 := by have := hB.size; have := Bz.size; omega
        replace hfr := hfr.below hN
        replace hB := below_trans (below_trans hB Bz) hN
        have HX0 := Lib.hid x0
        clear x0 hN Bz hb0
        have Bz := Below.refl V1.heap.size V1
        clear p50_0 p50_1 p50_2 p50_3
        have p0_0 := (HX0.out.below Bz).cell 0 (.bool x.s) rfl
        have p0_1 := (HX0.out.below Bz).cell 1 (.slice x.A x.l x.c) rfl
        have p0_2 := (HX0.out.below Bz).cell 2 (.bool x.s') rfl
        have p0_3 := (HX0.out.below Bz).cell 3 (.slice x.A' x.l' x.c') rfl
        go_wp2_with fail
        with_reducible refine (conv2_q (FrOk.below hfr (by go_grown)) (by omega) true HP (Lib.hid (Tab.below hT.out (below_trans hB (below_trans (b := V1) Bz (by go_grown)))))).mono ?_
        rintro e w1 ⟨rfl, b1⟩
        replace b1 := below_trans (a := V1) (by go_grown) b1
        replace Bz := below_trans Bz b1
        clear b1
        clear p0_0 p0_1 p0_2 p0_3
        go_wp2_with fail
        go_roundg (n - (i + 1))
        case measure => have := HGK.out; omega
        case rel => exact ⟨i + 1, by omega, rfl, by go_num, below_trans (below_trans hB Bz) (by go_grown), take_all HD.out HTI.out HP.out⟩
    · obtain rfl : i = n := by omega
      have i1 : ¬ (i : Int) < (i : Int) := by omega
      obtain rfl : r = true := by rw [← hr.out]; exact all_yes HLN.out HD.out
      go_wp2_with fail
      go_ret
      exact ⟨rfl, hB⟩
set_option maxRecDepth 100000 in
set_option maxHeartbeats 4000000 in
theorem all_query11 {w : World} {A : Option Addr} {n c m : Nat} {L : List Fr} (h : Sl Fr.cs 4 w A n c L) (hok : Hid (∀ x ∈ L, FrOk w m x)) (hm : m ≤ 40000) (hT : Hid (Tab w)) (hn : n ≤ 1000000000) (r : Bool) (hr : Hid (L.all (fun x => x.ex) = r)) :
    Calls Tryd.prog 43 #[.slice A n c, .func (.func 44) #[] #[]] w fun e w' => e = .returned (.bool r) ∧ Below w.heap.size w w' := by
  have H := Lib.hid h
  have HLN := Lib.hid h.1
  have hst : AL1 w L (fun x => x.ex) n n (.int .i64 ((0 : Nat) : Int)) w := ⟨0, Nat.zero_le _, rfl, rfl, Below.refl _ _, by simp⟩
  have HST := Lib.hid hst
  clear h hst
  go_enter Tryd.func43, Tryd.ntmps43
  go_wp2_with fail
  go_loopg [9] n (fun gk s wr => AL1 w L (fun x => x.ex) n gk s wr)
  case atStart => exact HST.out
  case round =>
    clear HST
    obtain ⟨i, hi, hgk, rfl, hB, hd⟩ := hrel
    have HGK := Lib.hid hgk
    have HD := Lib.hid hd
    clear hgk hd
    by_cases hlt : i < n
    · obtain ⟨b, off, rfl, hel⟩ := H.out.at Fr.cs_len (by omega) (by omega)
      obtain ⟨x, hx⟩ : ∃ x, L[i]? = some x := ⟨L[i]'(by rw [HLN.out]; exact hlt), List.getElem?_eq_getElem _⟩
      have hnd := hel i x hx
      have HTI := Lib.hid hx
      have hfr := (hok.out x (List.mem_of_getElem? hx)).below hB
      have i1 : (i : Int) < (n : Int) := by omega
      have i2 : (0 : Int) ≤ (i : Int) := by omega
      clear hx hel
      cases hp : (fun x => x.ex) x
      · have HP := Lib.hid hp
        clear hp
        have Bz := Below.refl wr.heap.size wr
        have p50_0 := (hnd.below (below_trans hB Bz)).c0 (u := .bool x.s) rfl
        have p50_1 := (hnd.below (below_trans hB Bz)).at 1 (.slice x.A x.l x.c) rfl
        have p50_2 := (hnd.below (below_trans hB Bz)).at 2 (.bool x.s') rfl
        have p50_3 := (hnd.below (below_trans hB Bz)).at 3 (.slice x.A' x.l' x.c') rfl
        go_upto_region 4 with (fail)
        obtain ⟨V1, hW, x0, hN⟩ := boxes1 wr #[.bool x.s, .slice x.A x.l x.c, .bool x.s', .slice x.A' x.l' x.c'] 27
        rw [← hW]
        clear hW
        obtain ⟨v0, hb0⟩ : ∃ b, b = wr.heap.size := ⟨_, rfl⟩
        rw [← hb0] at x0 ⊢
        have ow_0 : w.heap.size ≤ v0 := by have := hB.size; have := Bz.size; omega
        replace hfr := hfr.below hN
        replace hB := below_trans (below_trans hB Bz) hN
        have HX0 := Lib.hid x0
        clear x0 hN Bz hb0
        have Bz := Below.refl V1.heap.size V1
        clear p50_0 p50_1 p50_2 p50_3
        have p0_0 := (HX0.out.below Bz).cell 0 (.bool x.s) rfl
        have p0_1 := (HX0.out.below Bz).cell 1 (.slice x.A x.l x.c) rfl
        have p0_2 := (HX0.out.below Bz).cell 2 (.bool x.s') rfl
        have p0_3 := (HX0.out.below Bz).cell 3 (.slice x.A' x.l' x.c') rfl
        go_wp2_with fail
        with_reducible refine (query11_q (FrOk.below hfr (by go_grown)) (by omega) false HP (Lib.hid (Tab.below hT.out (below_trans hB (below_trans (b := V1) Bz (by go_grown)))))).mono ?_
        rintro e w1 ⟨rfl, b1⟩
        replace b1 := below_trans (a := V1) (by go_grown) b1
        replace Bz := below_trans Bz b1
        clear b1
        clear p0_0 p0_1 p0_2 p0_3
        go_wp2_with fail
        go_ret
        have hF := below_trans (c := w1) hB Bz
        obtain rfl : r = false := by rw [← hr.out]; exact all_no HTI.out HP.out
        exact ⟨rfl, below_trans (below_trans hB Bz) (by go_grown)⟩
      · have HP := Lib.hid hp
        clear hp
        have Bz := Below.refl wr.heap.size wr
        have p50_0 := (hnd.below (below_trans hB Bz)).c0 (u := .bool x.s) rfl
        have p50_1 := (hnd.below (below_trans hB Bz)).at 1 (.slice x.A x.l x.c) rfl
        have p50_2 := (hnd.below (below_trans hB Bz)).at 2 (.bool x.s') rfl
        have p50_3 := (hnd.below (below_trans hB Bz)).at 3 (.slice x.A' x.l' x.c') rfl
        go_upto_region 4 with (fail)
        obtain ⟨V1, hW, x0, hN⟩ := boxes1 wr #[.bool x.s, .slice x.A x.l x.c, .bool x.s', .slice x.A' x.l' x.c'] 27
        rw [← hW]
        clear hW
        obtain ⟨v0, hb0⟩ : ∃ b, b = wr.heap.size := ⟨_, rfl⟩
        rw [← hb0] at x0 ⊢
        have ow_0 : w.heap.size ≤ v0 := by have := hB.size; have := Bz.size; omega
        replace hfr := hfr.below hN
        replace hB := below_trans (below_trans hB Bz) hN
        have HX0 := Lib.hid x0
        clear x0 hN Bz hb0
        have Bz := Below.refl V1.heap.size V1
        clear p50_0 p50_1 p50_2 p50_3
        have p0_0 := (HX0.out.below Bz).cell 0 (.bool x.s) rfl
        have p0_1 := (HX0.out.below Bz).cell 1 (.slice x.A x.l x.c) rfl
        have p0_2 := (HX0.out.below Bz).cell 2 (.bool x.s') rfl
        have p0_3 := (HX0.out.below Bz).cell 3 (.slice x.A' x.l' x.c') rfl
        go_wp2_with fail
        with_reducible refine (query11_q (FrOk.below hfr (by go_grown)) (by omega) true HP (Lib.hid (Tab.below hT.out (below_trans hB (below_trans (b := V1) Bz (by go_grown)))))).mono ?_
        rintro e w1 ⟨rfl, b1⟩
        replace b1 := below_trans (a := V1) (by go_grown) b1
        replace Bz := below_trans Bz b1
        clear b1
        clear p0_0 p0_1 p0_2 p0_3
        go_wp2_with fail
        go_roundg (n - (i + 1))
        case measure => have := HGK.out; omega
        case rel => exact ⟨i + 1, by omega, rfl, by go_num, below_trans (below_trans hB Bz) (by go_grown), take_all HD.out HTI.out HP.out⟩
    · obtain rfl : i = n := by omega
      have i1 : ¬ (i : Int) < (i : Int) := by omega
      obtain rfl : r = true := by rw [← hr.out]; exact all_yes HLN.out HD.out
      go_wp2_with fail
      go_ret
      exact ⟨rfl, hB⟩
end Go.Proofs.YtionhpangenhnaaDoor
