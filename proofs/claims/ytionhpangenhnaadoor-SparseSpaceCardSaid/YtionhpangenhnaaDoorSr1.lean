/-
  How long are numbers, vectors, networks? The small ones, which statements look at. Written by wip/gen/sr1.py.
-/
import Derived.Test.YtionhpangenhnaaDoorVc0
namespace Go.Proofs.YtionhpangenhnaaDoor
open Go.RowKit Tw

/-- At most so many digits. -/
def shortFr (most : Int) (x : Fr) : Bool := decide ((x.l : Int) ≤ most) && decide ((x.l' : Int) ≤ most)
def shortFrs (cnt most : Int) (n : Nat) (L : List Fr) : Bool := decide ((n : Int) ≤ cnt) && L.all (shortFr most)
def shortVc (cnt most : Int) (v : Vc) : Bool := decide ((v.n : Int) ≤ cnt) && v.L.all (fun t => shortFr most t.x)
def shortVcs (cols cnt most : Int) (n : Nat) (L : List Vc) : Bool := decide ((n : Int) ≤ cols) && L.all (shortVc cnt most)
set_option maxRecDepth 100000 in
set_option maxHeartbeats 4000000 in
theorem shortRat_q {w : World} (x : Fr) (most : Int) (_hl : x.l ≤ 9223372036854775807 ∧ x.l' ≤ 9223372036854775807) (t : Bool) (ht : Hid (shortFr most x = t)) : Calls Tryd.prog 22 #[.agg #[.bool x.s, .slice x.A x.l x.c, .bool x.s', .slice x.A' x.l' x.c'], .int .i64 most] w fun e w' => e = .returned (.bool t) ∧ Below w.heap.size w w' := by
  cases h1 : decide ((x.l : Int) ≤ most)
  · obtain rfl : t = false := by rw [← ht.out]; unfold shortFr; rw [h1]; rfl
    clear ht
    obtain ⟨W, hW, x0, hB⟩ := boxes1 w #[.bool x.s, .slice x.A x.l x.c, .bool x.s', .slice x.A' x.l' x.c'] 27
    have HX0 := Lib.hid x0
    clear x0
    have Bz := Below.refl W.heap.size W
    have p0_1 := (HX0.out.below Bz).cell 1 (.slice x.A x.l x.c) rfl
    go_enter Tryd.func22, Tryd.ntmps22
    go_wp2_with fail
    rw [← hW]
    clear hW
    go_wp2_with fail
    go_ret
    have hF := below_trans (c := W) hB Bz
    exact ⟨rfl, below_trans hF (by go_grown)⟩
  · have g1 : decide ((x.l' : Int) ≤ most) = t := by rw [← ht.out]; unfold shortFr; rw [h1]; rfl
    clear ht
    obtain ⟨W, hW, x0, hB⟩ := boxes1 w #[.bool x.s, .slice x.A x.l x.c, .bool x.s', .slice x.A' x.l' x.c'] 27
    have HX0 := Lib.hid x0
    clear x0
    have Bz := Below.refl W.heap.size W
    have p0_1 := (HX0.out.below Bz).cell 1 (.slice x.A x.l x.c) rfl
    have p0_3 := (HX0.out.below Bz).cell 3 (.slice x.A' x.l' x.c') rfl
    go_enter Tryd.func22, Tryd.ntmps22
    go_wp2_with fail
    rw [← hW]
    clear hW
    go_wp2_with fail
    go_ret
    have hF := below_trans (c := W) hB Bz
    exact ⟨rfl, below_trans hF (by go_grown)⟩
set_option maxRecDepth 100000 in
set_option maxHeartbeats 4000000 in
theorem shortRats_q {w : World} {A : Option Addr} {n c : Nat} {L : List Fr} (h : Sl Fr.cs 4 w A n c L) (hok : Hid (∀ x ∈ L, x.l ≤ 9223372036854775807 ∧ x.l' ≤ 9223372036854775807)) (hn : n ≤ 9223372036854775807) (cnt most : Int) (r : Bool) (hr : Hid (shortFrs cnt most n L = r)) :
    Calls Tryd.prog 49 #[.slice A n c, .int .i64 cnt, .int .i64 most] w fun e w' => e = .returned (.bool r) ∧ Below w.heap.size w w' := by
  have H := Lib.hid h
  have HLN := Lib.hid h.1
  by_cases g0 : cnt < (n : Int)
  · obtain rfl : r = false := by rw [← hr.out]; unfold shortFrs; rw [decide_eq_false (by omega)]; rfl
    clear h hr
    have hB := Below.refl w.heap.size w
    have Bz := Below.refl w.heap.size w
    go_enter Tryd.func49, Tryd.ntmps49
    go_wp2_with fail
    go_ret
    have hF := below_trans (c := w) hB Bz
    exact ⟨rfl, below_trans hF (by go_grown)⟩
  · have hra : Hid (L.all (shortFr most) = r) := Lib.hid (by rw [← hr.out]; unfold shortFrs; rw [decide_eq_true (by omega), Bool.true_and])
    have hst : AL1 w L (shortFr most) n n (.int .i64 ((0 : Nat) : Int)) w := ⟨0, Nat.zero_le _, rfl, rfl, Below.refl _ _, by simp⟩
    have HST := Lib.hid hst
    clear h hr hst
    go_enter Tryd.func49, Tryd.ntmps49
    go_wp2_with fail
    go_loopg [7] n (fun gk s wr => AL1 w L (shortFr most) n gk s wr)
    case atStart => exact HST.out
    case round =>
      clear HST
      obtain ⟨i, hi, hgk, rfl, hB, hd⟩ := hrel
      have HGK := Lib.hid hgk
      have HD := Lib.hid hd
      clear hgk hd
      by_cases hlt : i < n
      · obtain ⟨b, off, rfl, hel⟩ := H.out.at Fr.cs_len (by omega) (by omega)
        obtain ⟨x, hx⟩ : ∃ x, L[i]? = some x := ⟨L[i]'(by rw [HLN.out]; exact hlt), List.getElem?_eq_getElem _⟩
        have hnd := hel i x hx
        have HTI := Lib.hid hx
        have i1 : (i : Int) < (n : Int) := by omega
        have i2 : (0 : Int) ≤ (i : Int) := by omega
        clear hx hel
        cases hp : (shortFr most) x
        · have HP := Lib.hid hp
          clear hp
          have Bz := Below.refl wr.heap.size wr
          have p50_0 := (hnd.below (below_trans hB Bz)).c0 (u := .bool x.s) rfl
          have p50_1 := (hnd.below (below_trans hB Bz)).at 1 (.slice x.A x.l x.c) rfl
          have p50_2 := (hnd.below (below_trans hB Bz)).at 2 (.bool x.s') rfl
          have p50_3 := (hnd.below (below_trans hB Bz)).at 3 (.slice x.A' x.l' x.c') rfl
          go_wp2_with fail
          with_reducible refine (shortRat_q x most (hok.out x (List.mem_of_getElem? HTI.out)) false HP).mono ?_
          rintro e w1 ⟨rfl, b1⟩
          replace b1 := below_trans (a := wr) (by go_grown) b1
          replace Bz := below_trans Bz b1
          clear b1
          clear p50_0 p50_1 p50_2 p50_3
          go_wp2_with fail
          go_ret
          have hF := below_trans (c := w1) hB Bz
          obtain rfl : r = false := by rw [← hra.out]; exact all_no HTI.out HP.out
          exact ⟨rfl, below_trans (below_trans hB Bz) (by go_grown)⟩
        · have HP := Lib.hid hp
          clear hp
          have Bz := Below.refl wr.heap.size wr
          have p50_0 := (hnd.below (below_trans hB Bz)).c0 (u := .bool x.s) rfl
          have p50_1 := (hnd.below (below_trans hB Bz)).at 1 (.slice x.A x.l x.c) rfl
          have p50_2 := (hnd.below (below_trans hB Bz)).at 2 (.bool x.s') rfl
          have p50_3 := (hnd.below (below_trans hB Bz)).at 3 (.slice x.A' x.l' x.c') rfl
          go_wp2_with fail
          with_reducible refine (shortRat_q x most (hok.out x (List.mem_of_getElem? HTI.out)) true HP).mono ?_
          rintro e w1 ⟨rfl, b1⟩
          replace b1 := below_trans (a := wr) (by go_grown) b1
          replace Bz := below_trans Bz b1
          clear b1
          clear p50_0 p50_1 p50_2 p50_3
          go_wp2_with fail
          go_roundg (n - (i + 1))
          case measure => have := HGK.out; omega
          case rel => exact ⟨i + 1, by omega, rfl, by go_num, below_trans (below_trans hB Bz) (by go_grown), take_all HD.out HTI.out HP.out⟩
      · obtain rfl : i = n := by omega
        have i1 : ¬ (i : Int) < (i : Int) := by omega
        obtain rfl : r = true := by rw [← hra.out]; exact all_yes HLN.out HD.out
        go_wp2_with fail
        go_ret
        exact ⟨rfl, hB⟩
set_option maxRecDepth 100000 in
set_option maxHeartbeats 4000000 in
theorem shortVec_q {w : World} {A : Option Addr} {n c : Nat} {L : List Tm} (h : Sl Tm.cs 5 w A n c L) (hok : Hid (∀ x ∈ L, x.x.l ≤ 9223372036854775807 ∧ x.x.l' ≤ 9223372036854775807)) (hn : n ≤ 9223372036854775807) (cnt most : Int) (r : Bool) (hr : Hid (shortVc cnt most ⟨A, n, c, L⟩ = r)) :
    Calls Tryd.prog 21 #[.slice A n c, .int .i64 cnt, .int .i64 most] w fun e w' => e = .returned (.bool r) ∧ Below w.heap.size w w' := by
  have H := Lib.hid h
  have HLN := Lib.hid h.1
  by_cases g0 : cnt < (n : Int)
  · obtain rfl : r = false := by rw [← hr.out]; unfold shortVc; simp only; rw [decide_eq_false (by omega)]; rfl
    clear h hr
    have hB := Below.refl w.heap.size w
    have Bz := Below.refl w.heap.size w
    go_enter Tryd.func21, Tryd.ntmps21
    go_wp2_with fail
    go_ret
    have hF := below_trans (c := w) hB Bz
    exact ⟨rfl, below_trans hF (by go_grown)⟩
  · have hra : Hid (L.all (fun t => shortFr most t.x) = r) := Lib.hid (by rw [← hr.out]; unfold shortVc; simp only; rw [decide_eq_true (by omega), Bool.true_and])
    have hst : AL1 w L (fun t => shortFr most t.x) n n (.int .i64 ((0 : Nat) : Int)) w := ⟨0, Nat.zero_le _, rfl, rfl, Below.refl _ _, by simp⟩
    have HST := Lib.hid hst
    clear h hr hst
    go_enter Tryd.func21, Tryd.ntmps21
    go_wp2_with fail
    go_loopg [7] n (fun gk s wr => AL1 w L (fun t => shortFr most t.x) n gk s wr)
    case atStart => exact HST.out
    case round =>
      clear HST
      obtain ⟨i, hi, hgk, rfl, hB, hd⟩ := hrel
      have HGK := Lib.hid hgk
      have HD := Lib.hid hd
      clear hgk hd
      by_cases hlt : i < n
      · obtain ⟨b, off, rfl, hel⟩ := H.out.at Tm.cs_len (by omega) (by omega)
        obtain ⟨x, hx⟩ : ∃ x, L[i]? = some x := ⟨L[i]'(by rw [HLN.out]; exact hlt), List.getElem?_eq_getElem _⟩
        have hnd := hel i x hx
        have HTI := Lib.hid hx
        have i1 : (i : Int) < (n : Int) := by omega
        have i2 : (0 : Int) ≤ (i : Int) := by omega
        clear hx hel
        cases hp : (fun t => shortFr most t.x) x
        · have HP := Lib.hid hp
          clear hp
          have Bz := Below.refl wr.heap.size wr
          have p50_1 := (hnd.below (below_trans hB Bz)).at 1 (.bool x.x.s) rfl
          have p50_2 := (hnd.below (below_trans hB Bz)).at 2 (.slice x.x.A x.x.l x.x.c) rfl
          have p50_3 := (hnd.below (below_trans hB Bz)).at 3 (.bool x.x.s') rfl
          have p50_4 := (hnd.below (below_trans hB Bz)).at 4 (.slice x.x.A' x.x.l' x.x.c') rfl
          go_wp2_with fail
          with_reducible refine (shortRat_q x.x most (hok.out x (List.mem_of_getElem? HTI.out)) false HP).mono ?_
          rintro e w1 ⟨rfl, b1⟩
          replace b1 := below_trans (a := wr) (by go_grown) b1
          replace Bz := below_trans Bz b1
          clear b1
          clear p50_1 p50_2 p50_3 p50_4
          go_wp2_with fail
          go_ret
          have hF := below_trans (c := w1) hB Bz
          obtain rfl : r = false := by rw [← hra.out]; exact all_no HTI.out HP.out
          exact ⟨rfl, below_trans (below_trans hB Bz) (by go_grown)⟩
        · have HP := Lib.hid hp
          clear hp
          have Bz := Below.refl wr.heap.size wr
          have p50_1 := (hnd.below (below_trans hB Bz)).at 1 (.bool x.x.s) rfl
          have p50_2 := (hnd.below (below_trans hB Bz)).at 2 (.slice x.x.A x.x.l x.x.c) rfl
          have p50_3 := (hnd.below (below_trans hB Bz)).at 3 (.bool x.x.s') rfl
          have p50_4 := (hnd.below (below_trans hB Bz)).at 4 (.slice x.x.A' x.x.l' x.x.c') rfl
          go_wp2_with fail
          with_reducible refine (shortRat_q x.x most (hok.out x (List.mem_of_getElem? HTI.out)) true HP).mono ?_
          rintro e w1 ⟨rfl, b1⟩
          replace b1 := below_trans (a := wr) (by go_grown) b1
          replace Bz := below_trans Bz b1
          clear b1
          clear p50_1 p50_2 p50_3 p50_4
          go_wp2_with fail
          go_roundg (n - (i + 1))
          case measure => have := HGK.out; omega
          case rel => exact ⟨i + 1, by omega, rfl, by go_num, below_trans (below_trans hB Bz) (by go_grown), take_all HD.out HTI.out HP.out⟩
      · obtain rfl : i = n := by omega
        have i1 : ¬ (i : Int) < (i : Int) := by omega
        obtain rfl : r = true := by rw [← hra.out]; exact all_yes HLN.out HD.out
        go_wp2_with fail
        go_ret
        exact ⟨rfl, hB⟩
set_option maxRecDepth 100000 in
set_option maxHeartbeats 4000000 in
theorem shortVecs_q {w : World} {A : Option Addr} {n c : Nat} {L : List Vc} (h : Sl Vc.cs 1 w A n c L) (hok : Hid (∀ v ∈ L, Sl Tm.cs 5 w v.A v.n v.c v.L ∧ v.n ≤ 9223372036854775807 ∧ ∀ x ∈ v.L, x.x.l ≤ 9223372036854775807 ∧ x.x.l' ≤ 9223372036854775807)) (hn : n ≤ 9223372036854775807) (cols cnt most : Int) (r : Bool) (hr : Hid (shortVcs cols cnt most n L = r)) :
    Calls Tryd.prog 48 #[.slice A n c, .int .i64 cols, .int .i64 cnt, .int .i64 most] w fun e w' => e = .returned (.bool r) ∧ Below w.heap.size w w' := by
  have H := Lib.hid h
  have HLN := Lib.hid h.1
  by_cases g0 : cols < (n : Int)
  · obtain rfl : r = false := by rw [← hr.out]; unfold shortVcs; rw [decide_eq_false (by omega)]; rfl
    clear h hr
    have hB := Below.refl w.heap.size w
    have Bz := Below.refl w.heap.size w
    go_enter Tryd.func48, Tryd.ntmps48
    go_wp2_with fail
    go_ret
    have hF := below_trans (c := w) hB Bz
    exact ⟨rfl, below_trans hF (by go_grown)⟩
  · have hra : Hid (L.all (shortVc cnt most) = r) := Lib.hid (by rw [← hr.out]; unfold shortVcs; rw [decide_eq_true (by omega), Bool.true_and])
    have hst : AL1 w L (shortVc cnt most) n n (.int .i64 ((0 : Nat) : Int)) w := ⟨0, Nat.zero_le _, rfl, rfl, Below.refl _ _, by simp⟩
    have HST := Lib.hid hst
    clear h hr hst
    go_enter Tryd.func48, Tryd.ntmps48
    go_wp2_with fail
    go_loopg [9] n (fun gk s wr => AL1 w L (shortVc cnt most) n gk s wr)
    case atStart => exact HST.out
    case round =>
      clear HST
      obtain ⟨i, hi, hgk, rfl, hB, hd⟩ := hrel
      have HGK := Lib.hid hgk
      have HD := Lib.hid hd
      clear hgk hd
      by_cases hlt : i < n
      · obtain ⟨b, off, rfl, hel⟩ := H.out.at Vc.cs_len (by omega) (by omega)
        obtain ⟨x, hx⟩ : ∃ x, L[i]? = some x := ⟨L[i]'(by rw [HLN.out]; exact hlt), List.getElem?_eq_getElem _⟩
        have hnd : ElA w b (off + i) (Vc.cs x) := by have := hel i x hx; rwa [Nat.mul_one] at this
        have HTI := Lib.hid hx
        have HV := Lib.hid (hok.out x (List.mem_of_getElem? HTI.out))
        have i1 : (i : Int) < (n : Int) := by omega
        have i2 : (0 : Int) ≤ (i : Int) := by omega
        clear hx hel
        cases hp : (shortVc cnt most) x
        · have HP := Lib.hid hp
          clear hp
          have Bz := Below.refl wr.heap.size wr
          have p50_0 := (hnd.below (below_trans hB Bz)).c0 (u := .slice x.A x.n x.c) rfl
          go_wp2_with fail
          with_reducible refine (shortVec_q (HV.out.1.below (below_trans hB (below_trans (b := wr) Bz (by go_grown)))) (Lib.hid HV.out.2.2) HV.out.2.1 cnt most false HP).mono ?_
          rintro e w1 ⟨rfl, b1⟩
          replace b1 := below_trans (a := wr) (by go_grown) b1
          replace Bz := below_trans Bz b1
          clear b1
          clear p50_0
          go_wp2_with fail
          go_ret
          have hF := below_trans (c := w1) hB Bz
          obtain rfl : r = false := by rw [← hra.out]; exact all_no HTI.out HP.out
          exact ⟨rfl, below_trans (below_trans hB Bz) (by go_grown)⟩
        · have HP := Lib.hid hp
          clear hp
          have Bz := Below.refl wr.heap.size wr
          have p50_0 := (hnd.below (below_trans hB Bz)).c0 (u := .slice x.A x.n x.c) rfl
          go_wp2_with fail
          with_reducible refine (shortVec_q (HV.out.1.below (below_trans hB (below_trans (b := wr) Bz (by go_grown)))) (Lib.hid HV.out.2.2) HV.out.2.1 cnt most true HP).mono ?_
          rintro e w1 ⟨rfl, b1⟩
          replace b1 := below_trans (a := wr) (by go_grown) b1
          replace Bz := below_trans Bz b1
          clear b1
          clear p50_0
          go_wp2_with fail
          go_roundg (n - (i + 1))
          case measure => have := HGK.out; omega
          case rel => exact ⟨i + 1, by omega, rfl, by go_num, below_trans (below_trans hB Bz) (by go_grown), take_all HD.out HTI.out HP.out⟩
      · obtain rfl : i = n := by omega
        have i1 : ¬ (i : Int) < (i : Int) := by omega
        obtain rfl : r = true := by rw [← hra.out]; exact all_yes HLN.out HD.out
        go_wp2_with fail
        go_ret
        exact ⟨rfl, hB⟩
end Go.Proofs.YtionhpangenhnaaDoor
