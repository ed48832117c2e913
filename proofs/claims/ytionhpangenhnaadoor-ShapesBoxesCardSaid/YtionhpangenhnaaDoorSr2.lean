/-
  Small networks and queries. Written by wip/gen/sr2.py.
-/
import Derived.Test.YtionhpangenhnaaDoorRdS
import Derived.Test.YtionhpangenhnaaDoorSr1
namespace Go.Proofs.YtionhpangenhnaaDoor
open Go.RowKit Tw

/-- A layer that is looked at. -/
def smallLy (units digits : Int) (y : Ly) : Bool := shortVcs units units digits y.rn y.rows && (shortFrs units digits y.bn y.bias && (shortFrs (4 * units) digits y.kn y.kern && (decide ((y.gn : Int) ≤ units) && (decide (y.out ≤ units) && (decide (y.ch ≤ units) && (decide (y.high ≤ units) && (decide (y.wide ≤ units) && (y.groups.all (fun v => decide ((v.n : Int) ≤ units))))))))))
def smallNet (lays units digits : Int) (n : Nat) (L : List Ly) : Bool := decide ((n : Int) ≤ lays) && L.all (smallLy units digits)
theorem FrIn.len {W : World} {x : Fr} (h : FrIn W x) : x.l ≤ 9223372036854775807 ∧ x.l' ≤ 9223372036854775807 := ⟨h.1, h.2.1⟩
theorem VcIn.short {W : World} {v : Vc} (h : VcIn W v) : Sl Tm.cs 5 W v.A v.n v.c v.L ∧ v.n ≤ 9223372036854775807 ∧ ∀ x ∈ v.L, x.x.l ≤ 9223372036854775807 ∧ x.x.l' ≤ 9223372036854775807 := ⟨h.2.1, by have := h.1; unfold maxLen at this; omega, fun x hx => (h.2.2 x hx).1.len⟩
/-- A state of the loop of SmallNet. -/
def SN1 (w : World) (cs : Array Value) (L : List Ly) (p : Ly → Bool) (n gk : Nat) (s : Value) (wr : World) : Prop := ∃ i : Nat, i ≤ n ∧ n - i = gk ∧ s = .int .i64 (i : Int) ∧ Below w.heap.size w wr ∧ Bx wr w.heap.size cs 30 ∧ (L.take i).all p = true
/-- A state of the loop over groups. -/
def SN2 (w : World) (cs : Array Value) (b : Nat) (ys : Array Value) (L : List Gp) (p : Gp → Bool) (n gk : Nat) (s : Value) (wr : World) : Prop := ∃ i : Nat, i ≤ n ∧ n - i = gk ∧ s = .int .i64 (i : Int) ∧ Below w.heap.size w wr ∧ Bx wr w.heap.size cs 30 ∧ Bx wr b ys 38 ∧ (L.take i).all p = true
set_option maxRecDepth 100000 in
set_option maxHeartbeats 4000000 in
theorem smallNet_q {w : World} {inp : Int} {lA : Option Addr} {ln lc : Nat} {L : List Ly} (h : Sl Ly.cs 13 w lA ln lc L) (hin : Hid (∀ y ∈ L, LyIn w y)) (hn : ln ≤ 9223372036854775807) (lays units digits : Int) (hu : 0 ≤ units ∧ units ≤ 100000) (r : Bool) (hr : Hid (smallNet lays units digits ln L = r)) :
    Calls Tryd.prog 17 #[.agg #[.int .i64 inp, .slice lA ln lc], .int .i64 lays, .int .i64 units, .int .i64 digits] w fun e w' => e = .returned (.bool r) ∧ Below w.heap.size w w' := by
  have H := Lib.hid h
  have HLN := Lib.hid h.1
  by_cases g0 : lays < (ln : Int)
  · obtain rfl : r = false := by rw [← hr.out]; unfold smallNet; rw [decide_eq_false (by omega)]; rfl
    clear h hr
    obtain ⟨W, hW, x0, hB⟩ := boxes1 w #[.int .i64 inp, .slice lA ln lc] 30
    have HX0 := Lib.hid x0
    clear x0
    have Bz := Below.refl W.heap.size W
    have p0_1 := (HX0.out.below Bz).cell 1 (.slice lA ln lc) rfl
    go_enter Tryd.func17, Tryd.ntmps17
    go_wp2_with fail
    rw [← hW]
    clear hW
    go_wp2_with fail
    go_ret
    have hF := below_trans (c := W) hB Bz
    exact ⟨rfl, below_trans hF (by go_grown)⟩
  · have hra : Hid (L.all (smallLy units digits) = r) := Lib.hid (by rw [← hr.out]; unfold smallNet; rw [decide_eq_true (by omega), Bool.true_and])
    clear h hr
    obtain ⟨W, hW, x0, hB⟩ := boxes1 w #[.int .i64 inp, .slice lA ln lc] 30
    have HX0 := Lib.hid x0
    clear x0
    have Bz := Below.refl W.heap.size W
    have p0_1 := (HX0.out.below Bz).cell 1 (.slice lA ln lc) rfl
    go_enter Tryd.func17, Tryd.ntmps17
    go_wp2_with fail
    rw [← hW]
    clear hW
    go_wp2_with fail
    have HB1 := Lib.hid (below_trans hB Bz)
    have XX0 := Lib.hid (HX0.out.below Bz)
    clear hB Bz HX0
    go_loopg [9] ln (fun gk s wr => SN1 w #[.int .i64 inp, .slice lA ln lc] L (smallLy units digits) ln gk s wr)
    case atStart => exact ⟨0, Nat.zero_le _, rfl, rfl, HB1.out, XX0.out, by simp⟩
    case round =>
      clear HB1 XX0
      obtain ⟨i, hi, hgk, rfl, hB, hx0, hd⟩ := hrel
      have HGK := Lib.hid hgk
      have HD := Lib.hid hd
      have HX0 := Lib.hid hx0
      clear hgk hd hx0
      by_cases hlt : i < ln
      · obtain ⟨b, off, rfl, hel⟩ := H.out.at Ly.cs_len (by omega) (by omega)
        obtain ⟨y, hy⟩ : ∃ y, L[i]? = some y := ⟨L[i]'(by rw [HLN.out]; exact hlt), List.getElem?_eq_getElem _⟩
        have hnd := hel i y hy
        have HTI := Lib.hid hy
        have HY := Lib.hid (hin.out y (List.mem_of_getElem? hy))
        have hyl : y.rn ≤ 9223372036854775807 ∧ y.bn ≤ 9223372036854775807 ∧ y.kn ≤ 9223372036854775807 ∧ y.gn ≤ 9223372036854775807 := by have := HY.out.lens; unfold maxLen at this; omega
        have i1 : (i : Int) < (ln : Int) := by omega
        have i2 : (0 : Int) ≤ (i : Int) := by omega
        have ow_1 : (w.heap.size : Nat) ≤ w.heap.size := Nat.le_refl _
        clear hy hel
        cases h1 : shortVcs units units digits y.rn y.rows
        · have H1 := Lib.hid h1
          have HP := Lib.hid (show smallLy units digits y = false by unfold smallLy; rw [H1.out]; rfl)
          clear h1
          have Bz := Below.refl wr.heap.size wr
          have p0_1 := (HX0.out.below Bz).cell 1 (.slice (some ⟨b, off, none⟩) ln lc) rfl
          have p50_0 := (hnd.below (below_trans hB Bz)).c0 (u := .int .u8 y.kind) rfl
          have p50_1 := (hnd.below (below_trans hB Bz)).at 1 (.slice y.rA y.rn y.rc) rfl
          have p50_2 := (hnd.below (below_trans hB Bz)).at 2 (.slice y.bA y.bn y.bc) rfl
          have p50_3 := (hnd.below (below_trans hB Bz)).at 3 (.int .i64 y.ch) rfl
          have p50_4 := (hnd.below (below_trans hB Bz)).at 4 (.int .i64 y.high) rfl
          have p50_5 := (hnd.below (below_trans hB Bz)).at 5 (.int .i64 y.wide) rfl
          have p50_6 := (hnd.below (below_trans hB Bz)).at 6 (.int .i64 y.out) rfl
          have p50_7 := (hnd.below (below_trans hB Bz)).at 7 (.int .i64 y.kh) rfl
          have p50_8 := (hnd.below (below_trans hB Bz)).at 8 (.int .i64 y.kw) rfl
          have p50_9 := (hnd.below (below_trans hB Bz)).at 9 (.int .i64 y.st) rfl
          have p50_10 := (hnd.below (below_trans hB Bz)).at 10 (.int .i64 y.pad) rfl
          have p50_11 := (hnd.below (below_trans hB Bz)).at 11 (.slice y.kA y.kn y.kc) rfl
          have p50_12 := (hnd.below (below_trans hB Bz)).at 12 (.slice y.gA y.gn y.gc) rfl
          go_upto_region 7 with (fail)
          obtain ⟨V1, hW, x1, hN⟩ := boxes1 wr #[.int .u8 y.kind, .slice y.rA y.rn y.rc, .slice y.bA y.bn y.bc, .int .i64 y.ch, .int .i64 y.high, .int .i64 y.wide, .int .i64 y.out, .int .i64 y.kh, .int .i64 y.kw, .int .i64 y.st, .int .i64 y.pad, .slice y.kA y.kn y.kc, .slice y.gA y.gn y.gc] 38
          rw [← hW]
          clear hW
          obtain ⟨v1, hb1⟩ : ∃ b, b = wr.heap.size := ⟨_, rfl⟩
          rw [← hb1] at x1 ⊢
          have o0_1 : w.heap.size < v1 := by have := (HX0.out.below Bz).lt; omega
          have ow_1 : w.heap.size ≤ v1 := by have := hB.size; have := Bz.size; omega
          replace hB := below_trans (below_trans hB Bz) hN
          replace HX0 := Lib.hid ((HX0.out.below Bz).below hN)
          have HX1 := Lib.hid x1
          clear x1 hN Bz hb1
          have Bz := Below.refl V1.heap.size V1
          clear p0_1 p50_0 p50_1 p50_2 p50_3 p50_4 p50_5 p50_6 p50_7 p50_8 p50_9 p50_10 p50_11 p50_12
          have p1_1 := (HX1.out.below Bz).cell 1 (.slice y.rA y.rn y.rc) rfl
          go_wp2_with fail
          with_reducible refine (shortVecs_q (HY.out.rows.below (below_trans hB (below_trans (b := V1) Bz (by go_grown)))) (Lib.hid fun v hv => ⟨(HY.out.rok v hv).short.1.below (below_trans hB (below_trans (b := V1) Bz (by go_grown))), (HY.out.rok v hv).short.2⟩) (by omega) units units digits false H1).mono ?_
          rintro e w1 ⟨rfl, b1⟩
          replace b1 := below_trans (a := V1) (by go_grown) b1
          replace Bz := below_trans Bz b1
          clear b1
          clear p1_1
          go_wp2_with fail
          go_ret
          have hF := below_trans (c := w1) hB Bz
          obtain rfl : r = false := by rw [← hra.out]; exact all_no HTI.out HP.out
          exact ⟨rfl, below_trans (below_trans hB Bz) (by go_grown)⟩
        · have H1 := Lib.hid h1
          clear h1
          cases h2 : shortFrs units digits y.bn y.bias
          · have H2 := Lib.hid h2
            have HP := Lib.hid (show smallLy units digits y = false by unfold smallLy; rw [H1.out, H2.out]; rfl)
            clear h2
            have Bz := Below.refl wr.heap.size wr
            have p0_1 := (HX0.out.below Bz).cell 1 (.slice (some ⟨b, off, none⟩) ln lc) rfl
            have p50_0 := (hnd.below (below_trans hB Bz)).c0 (u := .int .u8 y.kind) rfl
            have p50_1 := (hnd.below (below_trans hB Bz)).at 1 (.slice y.rA y.rn y.rc) rfl
            have p50_2 := (hnd.below (below_trans hB Bz)).at 2 (.slice y.bA y.bn y.bc) rfl
            have p50_3 := (hnd.below (below_trans hB Bz)).at 3 (.int .i64 y.ch) rfl
            have p50_4 := (hnd.below (below_trans hB Bz)).at 4 (.int .i64 y.high) rfl
            have p50_5 := (hnd.below (below_trans hB Bz)).at 5 (.int .i64 y.wide) rfl
            have p50_6 := (hnd.below (below_trans hB Bz)).at 6 (.int .i64 y.out) rfl
            have p50_7 := (hnd.below (below_trans hB Bz)).at 7 (.int .i64 y.kh) rfl
            have p50_8 := (hnd.below (below_trans hB Bz)).at 8 (.int .i64 y.kw) rfl
            have p50_9 := (hnd.below (below_trans hB Bz)).at 9 (.int .i64 y.st) rfl
            have p50_10 := (hnd.below (below_trans hB Bz)).at 10 (.int .i64 y.pad) rfl
            have p50_11 := (hnd.below (below_trans hB Bz)).at 11 (.slice y.kA y.kn y.kc) rfl
            have p50_12 := (hnd.below (below_trans hB Bz)).at 12 (.slice y.gA y.gn y.gc) rfl
            go_upto_region 7 with (fail)
            obtain ⟨V1, hW, x1, hN⟩ := boxes1 wr #[.int .u8 y.kind, .slice y.rA y.rn y.rc, .slice y.bA y.bn y.bc, .int .i64 y.ch, .int .i64 y.high, .int .i64 y.wide, .int .i64 y.out, .int .i64 y.kh, .int .i64 y.kw, .int .i64 y.st, .int .i64 y.pad, .slice y.kA y.kn y.kc, .slice y.gA y.gn y.gc] 38
            rw [← hW]
            clear hW
            obtain ⟨v1, hb1⟩ : ∃ b, b = wr.heap.size := ⟨_, rfl⟩
            rw [← hb1] at x1 ⊢
            have o0_1 : w.heap.size < v1 := by have := (HX0.out.below Bz).lt; omega
            have ow_1 : w.heap.size ≤ v1 := by have := hB.size; have := Bz.size; omega
            replace hB := below_trans (below_trans hB Bz) hN
            replace HX0 := Lib.hid ((HX0.out.below Bz).below hN)
            have HX1 := Lib.hid x1
            clear x1 hN Bz hb1
            have Bz := Below.refl V1.heap.size V1
            clear p0_1 p50_0 p50_1 p50_2 p50_3 p50_4 p50_5 p50_6 p50_7 p50_8 p50_9 p50_10 p50_11 p50_12
            have p1_1 := (HX1.out.below Bz).cell 1 (.slice y.rA y.rn y.rc) rfl
            go_wp2_with fail
            with_reducible refine (shortVecs_q (HY.out.rows.below (below_trans hB (below_trans (b := V1) Bz (by go_grown)))) (Lib.hid fun v hv => ⟨(HY.out.rok v hv).short.1.below (below_trans hB (below_trans (b := V1) Bz (by go_grown))), (HY.out.rok v hv).short.2⟩) (by omega) units units digits true H1).mono ?_
            rintro e w1 ⟨rfl, b1⟩
            replace b1 := below_trans (a := V1) (by go_grown) b1
            replace Bz := below_trans Bz b1
            clear b1
            clear p1_1
            have p1_2 := (HX1.out.below Bz).cell 2 (.slice y.bA y.bn y.bc) rfl
            go_wp2_with fail
            with_reducible refine (shortRats_q (HY.out.bias.below (below_trans hB (below_trans (b := w1) Bz (by go_grown)))) (Lib.hid fun x hx => (HY.out.bok x hx).len) (by omega) units digits false H2).mono ?_
            rintro e w2 ⟨rfl, b2⟩
            replace b2 := below_trans (a := w1) (by go_grown) b2
            replace Bz := below_trans Bz b2
            clear b2
            clear p1_2
            go_wp2_with fail
            go_ret
            have hF := below_trans (c := w2) hB Bz
            obtain rfl : r = false := by rw [← hra.out]; exact all_no HTI.out HP.out
            exact ⟨rfl, below_trans (below_trans hB Bz) (by go_grown)⟩
          · have H2 := Lib.hid h2
            clear h2
            cases h3 : shortFrs (4 * units) digits y.kn y.kern
            · have H3 := Lib.hid h3
              have HP := Lib.hid (show smallLy units digits y = false by unfold smallLy; rw [H1.out, H2.out, H3.out]; rfl)
              clear h3
              have Bz := Below.refl wr.heap.size wr
              have p0_1 := (HX0.out.below Bz).cell 1 (.slice (some ⟨b, off, none⟩) ln lc) rfl
              have p50_0 := (hnd.below (below_trans hB Bz)).c0 (u := .int .u8 y.kind) rfl
              have p50_1 := (hnd.below (below_trans hB Bz)).at 1 (.slice y.rA y.rn y.rc) rfl
              have p50_2 := (hnd.below (below_trans hB Bz)).at 2 (.slice y.bA y.bn y.bc) rfl
              have p50_3 := (hnd.below (below_trans hB Bz)).at 3 (.int .i64 y.ch) rfl
              have p50_4 := (hnd.below (below_trans hB Bz)).at 4 (.int .i64 y.high) rfl
              have p50_5 := (hnd.below (below_trans hB Bz)).at 5 (.int .i64 y.wide) rfl
              have p50_6 := (hnd.below (below_trans hB Bz)).at 6 (.int .i64 y.out) rfl
              have p50_7 := (hnd.below (below_trans hB Bz)).at 7 (.int .i64 y.kh) rfl
              have p50_8 := (hnd.below (below_trans hB Bz)).at 8 (.int .i64 y.kw) rfl
              have p50_9 := (hnd.below (below_trans hB Bz)).at 9 (.int .i64 y.st) rfl
              have p50_10 := (hnd.below (below_trans hB Bz)).at 10 (.int .i64 y.pad) rfl
              have p50_11 := (hnd.below (below_trans hB Bz)).at 11 (.slice y.kA y.kn y.kc) rfl
              have p50_12 := (hnd.below (below_trans hB Bz)).at 12 (.slice y.gA y.gn y.gc) rfl
              go_upto_region 7 with (fail)
              obtain ⟨V1, hW, x1, hN⟩ := boxes1 wr #[.int .u8 y.kind, .slice y.rA y.rn y.rc, .slice y.bA y.bn y.bc, .int .i64 y.ch, .int .i64 y.high, .int .i64 y.wide, .int .i64 y.out, .int .i64 y.kh, .int .i64 y.kw, .int .i64 y.st, .int .i64 y.pad, .slice y.kA y.kn y.kc, .slice y.gA y.gn y.gc] 38
              rw [← hW]
              clear hW
              obtain ⟨v1, hb1⟩ : ∃ b, b = wr.heap.size := ⟨_, rfl⟩
              rw [← hb1] at x1 ⊢
              have o0_1 : w.heap.size < v1 := by have := (HX0.out.below Bz).lt; omega
              have ow_1 : w.heap.size ≤ v1 := by have := hB.size; have := Bz.size; omega
              replace hB := below_trans (below_trans hB Bz) hN
              replace HX0 := Lib.hid ((HX0.out.below Bz).below hN)
              have HX1 := Lib.hid x1
              clear x1 hN Bz hb1
              have Bz := Below.refl V1.heap.size V1
              clear p0_1 p50_0 p50_1 p50_2 p50_3 p50_4 p50_5 p50_6 p50_7 p50_8 p50_9 p50_10 p50_11 p50_12
              have p1_1 := (HX1.out.below Bz).cell 1 (.slice y.rA y.rn y.rc) rfl
              go_wp2_with fail
              with_reducible refine (shortVecs_q (HY.out.rows.below (below_trans hB (below_trans (b := V1) Bz (by go_grown)))) (Lib.hid fun v hv => ⟨(HY.out.rok v hv).short.1.below (below_trans hB (below_trans (b := V1) Bz (by go_grown))), (HY.out.rok v hv).short.2⟩) (by omega) units units digits true H1).mono ?_
              rintro e w1 ⟨rfl, b1⟩
              replace b1 := below_trans (a := V1) (by go_grown) b1
              replace Bz := below_trans Bz b1
              clear b1
              clear p1_1
              have p1_2 := (HX1.out.below Bz).cell 2 (.slice y.bA y.bn y.bc) rfl
              go_wp2_with fail
              with_reducible refine (shortRats_q (HY.out.bias.below (below_trans hB (below_trans (b := w1) Bz (by go_grown)))) (Lib.hid fun x hx => (HY.out.bok x hx).len) (by omega) units digits true H2).mono ?_
              rintro e w2 ⟨rfl, b2⟩
              replace b2 := below_trans (a := w1) (by go_grown) b2
              replace Bz := below_trans Bz b2
              clear b2
              clear p1_2
              have p1_11 := (HX1.out.below Bz).cell 11 (.slice y.kA y.kn y.kc) rfl
              go_wp2_with fail
              with_reducible refine (shortRats_q (HY.out.kern.below (below_trans hB (below_trans (b := w2) Bz (by go_grown)))) (Lib.hid fun x hx => (HY.out.kok x hx).len) (by omega) (4 * units) digits false H3).mono ?_
              rintro e w3 ⟨rfl, b3⟩
              replace b3 := below_trans (a := w2) (by go_grown) b3
              replace Bz := below_trans Bz b3
              clear b3
              clear p1_11
              go_wp2_with fail
              go_ret
              have hF := below_trans (c := w3) hB Bz
              obtain rfl : r = false := by rw [← hra.out]; exact all_no HTI.out HP.out
              exact ⟨rfl, below_trans (below_trans hB Bz) (by go_grown)⟩
            · have H3 := Lib.hid h3
              clear h3
              cases h4 : decide ((y.gn : Int) ≤ units)
              · have H4 := Lib.hid h4
                have q4 : units < (y.gn : Int) := by simpa using h4
                have HP := Lib.hid (show smallLy units digits y = false by unfold smallLy; rw [H1.out, H2.out, H3.out, H4.out]; rfl)
                clear h4
                have Bz := Below.refl wr.heap.size wr
                have p0_1 := (HX0.out.below Bz).cell 1 (.slice (some ⟨b, off, none⟩) ln lc) rfl
                have p50_0 := (hnd.below (below_trans hB Bz)).c0 (u := .int .u8 y.kind) rfl
                have p50_1 := (hnd.below (below_trans hB Bz)).at 1 (.slice y.rA y.rn y.rc) rfl
                have p50_2 := (hnd.below (below_trans hB Bz)).at 2 (.slice y.bA y.bn y.bc) rfl
                have p50_3 := (hnd.below (below_trans hB Bz)).at 3 (.int .i64 y.ch) rfl
                have p50_4 := (hnd.below (below_trans hB Bz)).at 4 (.int .i64 y.high) rfl
                have p50_5 := (hnd.below (below_trans hB Bz)).at 5 (.int .i64 y.wide) rfl
                have p50_6 := (hnd.below (below_trans hB Bz)).at 6 (.int .i64 y.out) rfl
                have p50_7 := (hnd.below (below_trans hB Bz)).at 7 (.int .i64 y.kh) rfl
                have p50_8 := (hnd.below (below_trans hB Bz)).at 8 (.int .i64 y.kw) rfl
                have p50_9 := (hnd.below (below_trans hB Bz)).at 9 (.int .i64 y.st) rfl
                have p50_10 := (hnd.below (below_trans hB Bz)).at 10 (.int .i64 y.pad) rfl
                have p50_11 := (hnd.below (below_trans hB Bz)).at 11 (.slice y.kA y.kn y.kc) rfl
                have p50_12 := (hnd.below (below_trans hB Bz)).at 12 (.slice y.gA y.gn y.gc) rfl
                go_upto_region 7 with (fail)
                obtain ⟨V1, hW, x1, hN⟩ := boxes1 wr #[.int .u8 y.kind, .slice y.rA y.rn y.rc, .slice y.bA y.bn y.bc, .int .i64 y.ch, .int .i64 y.high, .int .i64 y.wide, .int .i64 y.out, .int .i64 y.kh, .int .i64 y.kw, .int .i64 y.st, .int .i64 y.pad, .slice y.kA y.kn y.kc, .slice y.gA y.gn y.gc] 38
                rw [← hW]
                clear hW
                obtain ⟨v1, hb1⟩ : ∃ b, b = wr.heap.size := ⟨_, rfl⟩
                rw [← hb1] at x1 ⊢
                have o0_1 : w.heap.size < v1 := by have := (HX0.out.below Bz).lt; omega
                have ow_1 : w.heap.size ≤ v1 := by have := hB.size; have := Bz.size; omega
                replace hB := below_trans (below_trans hB Bz) hN
                replace HX0 := Lib.hid ((HX0.out.below Bz).below hN)
                have HX1 := Lib.hid x1
                clear x1 hN Bz hb1
                have Bz := Below.refl V1.heap.size V1
                clear p0_1 p50_0 p50_1 p50_2 p50_3 p50_4 p50_5 p50_6 p50_7 p50_8 p50_9 p50_10 p50_11 p50_12
                have p1_1 := (HX1.out.below Bz).cell 1 (.slice y.rA y.rn y.rc) rfl
                go_wp2_with fail
                with_reducible refine (shortVecs_q (HY.out.rows.below (below_trans hB (below_trans (b := V1) Bz (by go_grown)))) (Lib.hid fun v hv => ⟨(HY.out.rok v hv).short.1.below (below_trans hB (below_trans (b := V1) Bz (by go_grown))), (HY.out.rok v hv).short.2⟩) (by omega) units units digits true H1).mono ?_
                rintro e w1 ⟨rfl, b1⟩
                replace b1 := below_trans (a := V1) (by go_grown) b1
                replace Bz := below_trans Bz b1
                clear b1
                clear p1_1
                have p1_2 := (HX1.out.below Bz).cell 2 (.slice y.bA y.bn y.bc) rfl
                go_wp2_with fail
                with_reducible refine (shortRats_q (HY.out.bias.below (below_trans hB (below_trans (b := w1) Bz (by go_grown)))) (Lib.hid fun x hx => (HY.out.bok x hx).len) (by omega) units digits true H2).mono ?_
                rintro e w2 ⟨rfl, b2⟩
                replace b2 := below_trans (a := w1) (by go_grown) b2
                replace Bz := below_trans Bz b2
                clear b2
                clear p1_2
                have p1_11 := (HX1.out.below Bz).cell 11 (.slice y.kA y.kn y.kc) rfl
                go_wp2_with fail
                with_reducible refine (shortRats_q (HY.out.kern.below (below_trans hB (below_trans (b := w2) Bz (by go_grown)))) (Lib.hid fun x hx => (HY.out.kok x hx).len) (by omega) (4 * units) digits true H3).mono ?_
                rintro e w3 ⟨rfl, b3⟩
                replace b3 := below_trans (a := w2) (by go_grown) b3
                replace Bz := below_trans Bz b3
                clear b3
                clear p1_11
                have p1_12 := (HX1.out.below Bz).cell 12 (.slice y.gA y.gn y.gc) rfl
                go_wp2_with fail
                go_ret
                have hF := below_trans (c := w3) hB Bz
                obtain rfl : r = false := by rw [← hra.out]; exact all_no HTI.out HP.out
                exact ⟨rfl, below_trans (below_trans hB Bz) (by go_grown)⟩
              · have H4 := Lib.hid h4
                have q4 : ¬ units < (y.gn : Int) := by simpa using h4
                clear h4
                cases h5 : decide (y.out ≤ units)
                · have H5 := Lib.hid h5
                  have q5 : units < y.out := by simpa using h5
                  have HP := Lib.hid (show smallLy units digits y = false by unfold smallLy; rw [H1.out, H2.out, H3.out, H4.out, H5.out]; rfl)
                  clear h5
                  have Bz := Below.refl wr.heap.size wr
                  have p0_1 := (HX0.out.below Bz).cell 1 (.slice (some ⟨b, off, none⟩) ln lc) rfl
                  have p50_0 := (hnd.below (below_trans hB Bz)).c0 (u := .int .u8 y.kind) rfl
                  have p50_1 := (hnd.below (below_trans hB Bz)).at 1 (.slice y.rA y.rn y.rc) rfl
                  have p50_2 := (hnd.below (below_trans hB Bz)).at 2 (.slice y.bA y.bn y.bc) rfl
                  have p50_3 := (hnd.below (below_trans hB Bz)).at 3 (.int .i64 y.ch) rfl
                  have p50_4 := (hnd.below (below_trans hB Bz)).at 4 (.int .i64 y.high) rfl
                  have p50_5 := (hnd.below (below_trans hB Bz)).at 5 (.int .i64 y.wide) rfl
                  have p50_6 := (hnd.below (below_trans hB Bz)).at 6 (.int .i64 y.out) rfl
                  have p50_7 := (hnd.below (below_trans hB Bz)).at 7 (.int .i64 y.kh) rfl
                  have p50_8 := (hnd.below (below_trans hB Bz)).at 8 (.int .i64 y.kw) rfl
                  have p50_9 := (hnd.below (below_trans hB Bz)).at 9 (.int .i64 y.st) rfl
                  have p50_10 := (hnd.below (below_trans hB Bz)).at 10 (.int .i64 y.pad) rfl
                  have p50_11 := (hnd.below (below_trans hB Bz)).at 11 (.slice y.kA y.kn y.kc) rfl
                  have p50_12 := (hnd.below (below_trans hB Bz)).at 12 (.slice y.gA y.gn y.gc) rfl
                  go_upto_region 7 with (fail)
                  obtain ⟨V1, hW, x1, hN⟩ := boxes1 wr #[.int .u8 y.kind, .slice y.rA y.rn y.rc, .slice y.bA y.bn y.bc, .int .i64 y.ch, .int .i64 y.high, .int .i64 y.wide, .int .i64 y.out, .int .i64 y.kh, .int .i64 y.kw, .int .i64 y.st, .int .i64 y.pad, .slice y.kA y.kn y.kc, .slice y.gA y.gn y.gc] 38
                  rw [← hW]
                  clear hW
                  obtain ⟨v1, hb1⟩ : ∃ b, b = wr.heap.size := ⟨_, rfl⟩
                  rw [← hb1] at x1 ⊢
                  have o0_1 : w.heap.size < v1 := by have := (HX0.out.below Bz).lt; omega
                  have ow_1 : w.heap.size ≤ v1 := by have := hB.size; have := Bz.size; omega
                  replace hB := below_trans (below_trans hB Bz) hN
                  replace HX0 := Lib.hid ((HX0.out.below Bz).below hN)
                  have HX1 := Lib.hid x1
                  clear x1 hN Bz hb1
                  have Bz := Below.refl V1.heap.size V1
                  clear p0_1 p50_0 p50_1 p50_2 p50_3 p50_4 p50_5 p50_6 p50_7 p50_8 p50_9 p50_10 p50_11 p50_12
                  have p1_1 := (HX1.out.below Bz).cell 1 (.slice y.rA y.rn y.rc) rfl
                  go_wp2_with fail
                  with_reducible refine (shortVecs_q (HY.out.rows.below (below_trans hB (below_trans (b := V1) Bz (by go_grown)))) (Lib.hid fun v hv => ⟨(HY.out.rok v hv).short.1.below (below_trans hB (below_trans (b := V1) Bz (by go_grown))), (HY.out.rok v hv).short.2⟩) (by omega) units units digits true H1).mono ?_
                  rintro e w1 ⟨rfl, b1⟩
                  replace b1 := below_trans (a := V1) (by go_grown) b1
                  replace Bz := below_trans Bz b1
                  clear b1
                  clear p1_1
                  have p1_2 := (HX1.out.below Bz).cell 2 (.slice y.bA y.bn y.bc) rfl
                  go_wp2_with fail
                  with_reducible refine (shortRats_q (HY.out.bias.below (below_trans hB (below_trans (b := w1) Bz (by go_grown)))) (Lib.hid fun x hx => (HY.out.bok x hx).len) (by omega) units digits true H2).mono ?_
                  rintro e w2 ⟨rfl, b2⟩
                  replace b2 := below_trans (a := w1) (by go_grown) b2
                  replace Bz := below_trans Bz b2
                  clear b2
                  clear p1_2
                  have p1_11 := (HX1.out.below Bz).cell 11 (.slice y.kA y.kn y.kc) rfl
                  go_wp2_with fail
                  with_reducible refine (shortRats_q (HY.out.kern.below (below_trans hB (below_trans (b := w2) Bz (by go_grown)))) (Lib.hid fun x hx => (HY.out.kok x hx).len) (by omega) (4 * units) digits true H3).mono ?_
                  rintro e w3 ⟨rfl, b3⟩
                  replace b3 := below_trans (a := w2) (by go_grown) b3
                  replace Bz := below_trans Bz b3
                  clear b3
                  clear p1_11
                  have p1_6 := (HX1.out.below Bz).cell 6 (.int .i64 y.out) rfl
                  have p1_12 := (HX1.out.below Bz).cell 12 (.slice y.gA y.gn y.gc) rfl
                  go_wp2_with fail
                  go_ret
                  have hF := below_trans (c := w3) hB Bz
                  obtain rfl : r = false := by rw [← hra.out]; exact all_no HTI.out HP.out
                  exact ⟨rfl, below_trans (below_trans hB Bz) (by go_grown)⟩
                · have H5 := Lib.hid h5
                  have q5 : ¬ units < y.out := by simpa using h5
                  clear h5
                  cases h6 : decide (y.ch ≤ units)
                  · have H6 := Lib.hid h6
                    have q6 : units < y.ch := by simpa using h6
                    have HP := Lib.hid (show smallLy units digits y = false by unfold smallLy; rw [H1.out, H2.out, H3.out, H4.out, H5.out, H6.out]; rfl)
                    clear h6
                    have Bz := Below.refl wr.heap.size wr
                    have p0_1 := (HX0.out.below Bz).cell 1 (.slice (some ⟨b, off, none⟩) ln lc) rfl
                    have p50_0 := (hnd.below (below_trans hB Bz)).c0 (u := .int .u8 y.kind) rfl
                    have p50_1 := (hnd.below (below_trans hB Bz)).at 1 (.slice y.rA y.rn y.rc) rfl
                    have p50_2 := (hnd.below (below_trans hB Bz)).at 2 (.slice y.bA y.bn y.bc) rfl
                    have p50_3 := (hnd.below (below_trans hB Bz)).at 3 (.int .i64 y.ch) rfl
                    have p50_4 := (hnd.below (below_trans hB Bz)).at 4 (.int .i64 y.high) rfl
                    have p50_5 := (hnd.below (below_trans hB Bz)).at 5 (.int .i64 y.wide) rfl
                    have p50_6 := (hnd.below (below_trans hB Bz)).at 6 (.int .i64 y.out) rfl
                    have p50_7 := (hnd.below (below_trans hB Bz)).at 7 (.int .i64 y.kh) rfl
                    have p50_8 := (hnd.below (below_trans hB Bz)).at 8 (.int .i64 y.kw) rfl
                    have p50_9 := (hnd.below (below_trans hB Bz)).at 9 (.int .i64 y.st) rfl
                    have p50_10 := (hnd.below (below_trans hB Bz)).at 10 (.int .i64 y.pad) rfl
                    have p50_11 := (hnd.below (below_trans hB Bz)).at 11 (.slice y.kA y.kn y.kc) rfl
                    have p50_12 := (hnd.below (below_trans hB Bz)).at 12 (.slice y.gA y.gn y.gc) rfl
                    go_upto_region 7 with (fail)
                    obtain ⟨V1, hW, x1, hN⟩ := boxes1 wr #[.int .u8 y.kind, .slice y.rA y.rn y.rc, .slice y.bA y.bn y.bc, .int .i64 y.ch, .int .i64 y.high, .int .i64 y.wide, .int .i64 y.out, .int .i64 y.kh, .int .i64 y.kw, .int .i64 y.st, .int .i64 y.pad, .slice y.kA y.kn y.kc, .slice y.gA y.gn y.gc] 38
                    rw [← hW]
                    clear hW
                    obtain ⟨v1, hb1⟩ : ∃ b, b = wr.heap.size := ⟨_, rfl⟩
                    rw [← hb1] at x1 ⊢
                    have o0_1 : w.heap.size < v1 := by have := (HX0.out.below Bz).lt; omega
                    have ow_1 : w.heap.size ≤ v1 := by have := hB.size; have := Bz.size; omega
                    replace hB := below_trans (below_trans hB Bz) hN
                    replace HX0 := Lib.hid ((HX0.out.below Bz).below hN)
                    have HX1 := Lib.hid x1
                    clear x1 hN Bz hb1
                    have Bz := Below.refl V1.heap.size V1
                    clear p0_1 p50_0 p50_1 p50_2 p50_3 p50_4 p50_5 p50_6 p50_7 p50_8 p50_9 p50_10 p50_11 p50_12
                    have p1_1 := (HX1.out.below Bz).cell 1 (.slice y.rA y.rn y.rc) rfl
                    go_wp2_with fail
                    with_reducible refine (shortVecs_q (HY.out.rows.below (below_trans hB (below_trans (b := V1) Bz (by go_grown)))) (Lib.hid fun v hv => ⟨(HY.out.rok v hv).short.1.below (below_trans hB (below_trans (b := V1) Bz (by go_grown))), (HY.out.rok v hv).short.2⟩) (by omega) units units digits true H1).mono ?_
                    rintro e w1 ⟨rfl, b1⟩
                    replace b1 := below_trans (a := V1) (by go_grown) b1
                    replace Bz := below_trans Bz b1
                    clear b1
                    clear p1_1
                    have p1_2 := (HX1.out.below Bz).cell 2 (.slice y.bA y.bn y.bc) rfl
                    go_wp2_with fail
                    with_reducible refine (shortRats_q (HY.out.bias.below (below_trans hB (below_trans (b := w1) Bz (by go_grown)))) (Lib.hid fun x hx => (HY.out.bok x hx).len) (by omega) units digits true H2).mono ?_
                    rintro e w2 ⟨rfl, b2⟩
                    replace b2 := below_trans (a := w1) (by go_grown) b2
                    replace Bz := below_trans Bz b2
                    clear b2
                    clear p1_2
                    have p1_11 := (HX1.out.below Bz).cell 11 (.slice y.kA y.kn y.kc) rfl
                    go_wp2_with fail
                    with_reducible refine (shortRats_q (HY.out.kern.below (below_trans hB (below_trans (b := w2) Bz (by go_grown)))) (Lib.hid fun x hx => (HY.out.kok x hx).len) (by omega) (4 * units) digits true H3).mono ?_
                    rintro e w3 ⟨rfl, b3⟩
                    replace b3 := below_trans (a := w2) (by go_grown) b3
                    replace Bz := below_trans Bz b3
                    clear b3
                    clear p1_11
                    have p1_3 := (HX1.out.below Bz).cell 3 (.int .i64 y.ch) rfl
                    have p1_6 := (HX1.out.below Bz).cell 6 (.int .i64 y.out) rfl
                    have p1_12 := (HX1.out.below Bz).cell 12 (.slice y.gA y.gn y.gc) rfl
                    go_wp2_with fail
                    go_ret
                    have hF := below_trans (c := w3) hB Bz
                    obtain rfl : r = false := by rw [← hra.out]; exact all_no HTI.out HP.out
                    exact ⟨rfl, below_trans (below_trans hB Bz) (by go_grown)⟩
                  · have H6 := Lib.hid h6
                    have q6 : ¬ units < y.ch := by simpa using h6
                    clear h6
                    cases h7 : decide (y.high ≤ units)
                    · have H7 := Lib.hid h7
                      have q7 : units < y.high := by simpa using h7
                      have HP := Lib.hid (show smallLy units digits y = false by unfold smallLy; rw [H1.out, H2.out, H3.out, H4.out, H5.out, H6.out, H7.out]; rfl)
                      clear h7
                      have Bz := Below.refl wr.heap.size wr
                      have p0_1 := (HX0.out.below Bz).cell 1 (.slice (some ⟨b, off, none⟩) ln lc) rfl
                      have p50_0 := (hnd.below (below_trans hB Bz)).c0 (u := .int .u8 y.kind) rfl
                      have p50_1 := (hnd.below (below_trans hB Bz)).at 1 (.slice y.rA y.rn y.rc) rfl
                      have p50_2 := (hnd.below (below_trans hB Bz)).at 2 (.slice y.bA y.bn y.bc) rfl
                      have p50_3 := (hnd.below (below_trans hB Bz)).at 3 (.int .i64 y.ch) rfl
                      have p50_4 := (hnd.below (below_trans hB Bz)).at 4 (.int .i64 y.high) rfl
                      have p50_5 := (hnd.below (below_trans hB Bz)).at 5 (.int .i64 y.wide) rfl
                      have p50_6 := (hnd.below (below_trans hB Bz)).at 6 (.int .i64 y.out) rfl
                      have p50_7 := (hnd.below (below_trans hB Bz)).at 7 (.int .i64 y.kh) rfl
                      have p50_8 := (hnd.below (below_trans hB Bz)).at 8 (.int .i64 y.kw) rfl
                      have p50_9 := (hnd.below (below_trans hB Bz)).at 9 (.int .i64 y.st) rfl
                      have p50_10 := (hnd.below (below_trans hB Bz)).at 10 (.int .i64 y.pad) rfl
                      have p50_11 := (hnd.below (below_trans hB Bz)).at 11 (.slice y.kA y.kn y.kc) rfl
                      have p50_12 := (hnd.below (below_trans hB Bz)).at 12 (.slice y.gA y.gn y.gc) rfl
                      go_upto_region 7 with (fail)
                      obtain ⟨V1, hW, x1, hN⟩ := boxes1 wr #[.int .u8 y.kind, .slice y.rA y.rn y.rc, .slice y.bA y.bn y.bc, .int .i64 y.ch, .int .i64 y.high, .int .i64 y.wide, .int .i64 y.out, .int .i64 y.kh, .int .i64 y.kw, .int .i64 y.st, .int .i64 y.pad, .slice y.kA y.kn y.kc, .slice y.gA y.gn y.gc] 38
                      rw [← hW]
                      clear hW
                      obtain ⟨v1, hb1⟩ : ∃ b, b = wr.heap.size := ⟨_, rfl⟩
                      rw [← hb1] at x1 ⊢
                      have o0_1 : w.heap.size < v1 := by have := (HX0.out.below Bz).lt; omega
                      have ow_1 : w.heap.size ≤ v1 := by have := hB.size; have := Bz.size; omega
                      replace hB := below_trans (below_trans hB Bz) hN
                      replace HX0 := Lib.hid ((HX0.out.below Bz).below hN)
                      have HX1 := Lib.hid x1
                      clear x1 hN Bz hb1
                      have Bz := Below.refl V1.heap.size V1
                      clear p0_1 p50_0 p50_1 p50_2 p50_3 p50_4 p50_5 p50_6 p50_7 p50_8 p50_9 p50_10 p50_11 p50_12
                      have p1_1 := (HX1.out.below Bz).cell 1 (.slice y.rA y.rn y.rc) rfl
                      go_wp2_with fail
                      with_reducible refine (shortVecs_q (HY.out.rows.below (below_trans hB (below_trans (b := V1) Bz (by go_grown)))) (Lib.hid fun v hv => ⟨(HY.out.rok v hv).short.1.below (below_trans hB (below_trans (b := V1) Bz (by go_grown))), (HY.out.rok v hv).short.2⟩) (by omega) units units digits true H1).mono ?_
                      rintro e w1 ⟨rfl, b1⟩
                      replace b1 := below_trans (a := V1) (by go_grown) b1
                      replace Bz := below_trans Bz b1
                      clear b1
                      clear p1_1
                      have p1_2 := (HX1.out.below Bz).cell 2 (.slice y.bA y.bn y.bc) rfl
                      go_wp2_with fail
                      with_reducible refine (shortRats_q (HY.out.bias.below (below_trans hB (below_trans (b := w1) Bz (by go_grown)))) (Lib.hid fun x hx => (HY.out.bok x hx).len) (by omega) units digits true H2).mono ?_
                      rintro e w2 ⟨rfl, b2⟩
                      replace b2 := below_trans (a := w1) (by go_grown) b2
                      replace Bz := below_trans Bz b2
                      clear b2
                      clear p1_2
                      have p1_11 := (HX1.out.below Bz).cell 11 (.slice y.kA y.kn y.kc) rfl
                      go_wp2_with fail
                      with_reducible refine (shortRats_q (HY.out.kern.below (below_trans hB (below_trans (b := w2) Bz (by go_grown)))) (Lib.hid fun x hx => (HY.out.kok x hx).len) (by omega) (4 * units) digits true H3).mono ?_
                      rintro e w3 ⟨rfl, b3⟩
                      replace b3 := below_trans (a := w2) (by go_grown) b3
                      replace Bz := below_trans Bz b3
                      clear b3
                      clear p1_11
                      have p1_3 := (HX1.out.below Bz).cell 3 (.int .i64 y.ch) rfl
                      have p1_4 := (HX1.out.below Bz).cell 4 (.int .i64 y.high) rfl
                      have p1_6 := (HX1.out.below Bz).cell 6 (.int .i64 y.out) rfl
                      have p1_12 := (HX1.out.below Bz).cell 12 (.slice y.gA y.gn y.gc) rfl
                      go_wp2_with fail
                      go_ret
                      have hF := below_trans (c := w3) hB Bz
                      obtain rfl : r = false := by rw [← hra.out]; exact all_no HTI.out HP.out
                      exact ⟨rfl, below_trans (below_trans hB Bz) (by go_grown)⟩
                    · have H7 := Lib.hid h7
                      have q7 : ¬ units < y.high := by simpa using h7
                      clear h7
                      cases h8 : decide (y.wide ≤ units)
                      · have H8 := Lib.hid h8
                        have q8 : units < y.wide := by simpa using h8
                        have HP := Lib.hid (show smallLy units digits y = false by unfold smallLy; rw [H1.out, H2.out, H3.out, H4.out, H5.out, H6.out, H7.out, H8.out]; rfl)
                        clear h8
                        have Bz := Below.refl wr.heap.size wr
                        have p0_1 := (HX0.out.below Bz).cell 1 (.slice (some ⟨b, off, none⟩) ln lc) rfl
                        have p50_0 := (hnd.below (below_trans hB Bz)).c0 (u := .int .u8 y.kind) rfl
                        have p50_1 := (hnd.below (below_trans hB Bz)).at 1 (.slice y.rA y.rn y.rc) rfl
                        have p50_2 := (hnd.below (below_trans hB Bz)).at 2 (.slice y.bA y.bn y.bc) rfl
                        have p50_3 := (hnd.below (below_trans hB Bz)).at 3 (.int .i64 y.ch) rfl
                        have p50_4 := (hnd.below (below_trans hB Bz)).at 4 (.int .i64 y.high) rfl
                        have p50_5 := (hnd.below (below_trans hB Bz)).at 5 (.int .i64 y.wide) rfl
                        have p50_6 := (hnd.below (below_trans hB Bz)).at 6 (.int .i64 y.out) rfl
                        have p50_7 := (hnd.below (below_trans hB Bz)).at 7 (.int .i64 y.kh) rfl
                        have p50_8 := (hnd.below (below_trans hB Bz)).at 8 (.int .i64 y.kw) rfl
                        have p50_9 := (hnd.below (below_trans hB Bz)).at 9 (.int .i64 y.st) rfl
                        have p50_10 := (hnd.below (below_trans hB Bz)).at 10 (.int .i64 y.pad) rfl
                        have p50_11 := (hnd.below (below_trans hB Bz)).at 11 (.slice y.kA y.kn y.kc) rfl
                        have p50_12 := (hnd.below (below_trans hB Bz)).at 12 (.slice y.gA y.gn y.gc) rfl
                        go_upto_region 7 with (fail)
                        obtain ⟨V1, hW, x1, hN⟩ := boxes1 wr #[.int .u8 y.kind, .slice y.rA y.rn y.rc, .slice y.bA y.bn y.bc, .int .i64 y.ch, .int .i64 y.high, .int .i64 y.wide, .int .i64 y.out, .int .i64 y.kh, .int .i64 y.kw, .int .i64 y.st, .int .i64 y.pad, .slice y.kA y.kn y.kc, .slice y.gA y.gn y.gc] 38
                        rw [← hW]
                        clear hW
                        obtain ⟨v1, hb1⟩ : ∃ b, b = wr.heap.size := ⟨_, rfl⟩
                        rw [← hb1] at x1 ⊢
                        have o0_1 : w.heap.size < v1 := by have := (HX0.out.below Bz).lt; omega
                        have ow_1 : w.heap.size ≤ v1 := by have := hB.size; have := Bz.size; omega
                        replace hB := below_trans (below_trans hB Bz) hN
                        replace HX0 := Lib.hid ((HX0.out.below Bz).below hN)
                        have HX1 := Lib.hid x1
                        clear x1 hN Bz hb1
                        have Bz := Below.refl V1.heap.size V1
                        clear p0_1 p50_0 p50_1 p50_2 p50_3 p50_4 p50_5 p50_6 p50_7 p50_8 p50_9 p50_10 p50_11 p50_12
                        have p1_1 := (HX1.out.below Bz).cell 1 (.slice y.rA y.rn y.rc) rfl
                        go_wp2_with fail
                        with_reducible refine (shortVecs_q (HY.out.rows.below (below_trans hB (below_trans (b := V1) Bz (by go_grown)))) (Lib.hid fun v hv => ⟨(HY.out.rok v hv).short.1.below (below_trans hB (below_trans (b := V1) Bz (by go_grown))), (HY.out.rok v hv).short.2⟩) (by omega) units units digits true H1).mono ?_
                        rintro e w1 ⟨rfl, b1⟩
                        replace b1 := below_trans (a := V1) (by go_grown) b1
                        replace Bz := below_trans Bz b1
                        clear b1
                        clear p1_1
                        have p1_2 := (HX1.out.below Bz).cell 2 (.slice y.bA y.bn y.bc) rfl
                        go_wp2_with fail
                        with_reducible refine (shortRats_q (HY.out.bias.below (below_trans hB (below_trans (b := w1) Bz (by go_grown)))) (Lib.hid fun x hx => (HY.out.bok x hx).len) (by omega) units digits true H2).mono ?_
                        rintro e w2 ⟨rfl, b2⟩
                        replace b2 := below_trans (a := w1) (by go_grown) b2
                        replace Bz := below_trans Bz b2
                        clear b2
                        clear p1_2
                        have p1_11 := (HX1.out.below Bz).cell 11 (.slice y.kA y.kn y.kc) rfl
                        go_wp2_with fail
                        with_reducible refine (shortRats_q (HY.out.kern.below (below_trans hB (below_trans (b := w2) Bz (by go_grown)))) (Lib.hid fun x hx => (HY.out.kok x hx).len) (by omega) (4 * units) digits true H3).mono ?_
                        rintro e w3 ⟨rfl, b3⟩
                        replace b3 := below_trans (a := w2) (by go_grown) b3
                        replace Bz := below_trans Bz b3
                        clear b3
                        clear p1_11
                        have p1_3 := (HX1.out.below Bz).cell 3 (.int .i64 y.ch) rfl
                        have p1_4 := (HX1.out.below Bz).cell 4 (.int .i64 y.high) rfl
                        have p1_5 := (HX1.out.below Bz).cell 5 (.int .i64 y.wide) rfl
                        have p1_6 := (HX1.out.below Bz).cell 6 (.int .i64 y.out) rfl
                        have p1_12 := (HX1.out.below Bz).cell 12 (.slice y.gA y.gn y.gc) rfl
                        go_wp2_with fail
                        go_ret
                        have hF := below_trans (c := w3) hB Bz
                        obtain rfl : r = false := by rw [← hra.out]; exact all_no HTI.out HP.out
                        exact ⟨rfl, below_trans (below_trans hB Bz) (by go_grown)⟩
                      · have H8 := Lib.hid h8
                        have q8 : ¬ units < y.wide := by simpa using h8
                        clear h8
                        have Bz := Below.refl wr.heap.size wr
                        have p0_1 := (HX0.out.below Bz).cell 1 (.slice (some ⟨b, off, none⟩) ln lc) rfl
                        have p50_0 := (hnd.below (below_trans hB Bz)).c0 (u := .int .u8 y.kind) rfl
                        have p50_1 := (hnd.below (below_trans hB Bz)).at 1 (.slice y.rA y.rn y.rc) rfl
                        have p50_2 := (hnd.below (below_trans hB Bz)).at 2 (.slice y.bA y.bn y.bc) rfl
                        have p50_3 := (hnd.below (below_trans hB Bz)).at 3 (.int .i64 y.ch) rfl
                        have p50_4 := (hnd.below (below_trans hB Bz)).at 4 (.int .i64 y.high) rfl
                        have p50_5 := (hnd.below (below_trans hB Bz)).at 5 (.int .i64 y.wide) rfl
                        have p50_6 := (hnd.below (below_trans hB Bz)).at 6 (.int .i64 y.out) rfl
                        have p50_7 := (hnd.below (below_trans hB Bz)).at 7 (.int .i64 y.kh) rfl
                        have p50_8 := (hnd.below (below_trans hB Bz)).at 8 (.int .i64 y.kw) rfl
                        have p50_9 := (hnd.below (below_trans hB Bz)).at 9 (.int .i64 y.st) rfl
                        have p50_10 := (hnd.below (below_trans hB Bz)).at 10 (.int .i64 y.pad) rfl
                        have p50_11 := (hnd.below (below_trans hB Bz)).at 11 (.slice y.kA y.kn y.kc) rfl
                        have p50_12 := (hnd.below (below_trans hB Bz)).at 12 (.slice y.gA y.gn y.gc) rfl
                        go_upto_region 7 with (fail)
                        obtain ⟨V1, hW, x1, hN⟩ := boxes1 wr #[.int .u8 y.kind, .slice y.rA y.rn y.rc, .slice y.bA y.bn y.bc, .int .i64 y.ch, .int .i64 y.high, .int .i64 y.wide, .int .i64 y.out, .int .i64 y.kh, .int .i64 y.kw, .int .i64 y.st, .int .i64 y.pad, .slice y.kA y.kn y.kc, .slice y.gA y.gn y.gc] 38
                        rw [← hW]
                        clear hW
                        obtain ⟨v1, hb1⟩ : ∃ b, b = wr.heap.size := ⟨_, rfl⟩
                        rw [← hb1] at x1 ⊢
                        have o0_1 : w.heap.size < v1 := by have := (HX0.out.below Bz).lt; omega
                        have ow_1 : w.heap.size ≤ v1 := by have := hB.size; have := Bz.size; omega
                        replace hB := below_trans (below_trans hB Bz) hN
                        replace HX0 := Lib.hid ((HX0.out.below Bz).below hN)
                        have HX1 := Lib.hid x1
                        clear x1 hN Bz hb1
                        have Bz := Below.refl V1.heap.size V1
                        clear p0_1 p50_0 p50_1 p50_2 p50_3 p50_4 p50_5 p50_6 p50_7 p50_8 p50_9 p50_10 p50_11 p50_12
                        have p1_1 := (HX1.out.below Bz).cell 1 (.slice y.rA y.rn y.rc) rfl
                        go_wp2_with fail
                        with_reducible refine (shortVecs_q (HY.out.rows.below (below_trans hB (below_trans (b := V1) Bz (by go_grown)))) (Lib.hid fun v hv => ⟨(HY.out.rok v hv).short.1.below (below_trans hB (below_trans (b := V1) Bz (by go_grown))), (HY.out.rok v hv).short.2⟩) (by omega) units units digits true H1).mono ?_
                        rintro e w1 ⟨rfl, b1⟩
                        replace b1 := below_trans (a := V1) (by go_grown) b1
                        replace Bz := below_trans Bz b1
                        clear b1
                        clear p1_1
                        have p1_2 := (HX1.out.below Bz).cell 2 (.slice y.bA y.bn y.bc) rfl
                        go_wp2_with fail
                        with_reducible refine (shortRats_q (HY.out.bias.below (below_trans hB (below_trans (b := w1) Bz (by go_grown)))) (Lib.hid fun x hx => (HY.out.bok x hx).len) (by omega) units digits true H2).mono ?_
                        rintro e w2 ⟨rfl, b2⟩
                        replace b2 := below_trans (a := w1) (by go_grown) b2
                        replace Bz := below_trans Bz b2
                        clear b2
                        clear p1_2
                        have p1_11 := (HX1.out.below Bz).cell 11 (.slice y.kA y.kn y.kc) rfl
                        go_wp2_with fail
                        with_reducible refine (shortRats_q (HY.out.kern.below (below_trans hB (below_trans (b := w2) Bz (by go_grown)))) (Lib.hid fun x hx => (HY.out.kok x hx).len) (by omega) (4 * units) digits true H3).mono ?_
                        rintro e w3 ⟨rfl, b3⟩
                        replace b3 := below_trans (a := w2) (by go_grown) b3
                        replace Bz := below_trans Bz b3
                        clear b3
                        clear p1_11
                        have p1_3 := (HX1.out.below Bz).cell 3 (.int .i64 y.ch) rfl
                        have p1_4 := (HX1.out.below Bz).cell 4 (.int .i64 y.high) rfl
                        have p1_5 := (HX1.out.below Bz).cell 5 (.int .i64 y.wide) rfl
                        have p1_6 := (HX1.out.below Bz).cell 6 (.int .i64 y.out) rfl
                        have p1_12 := (HX1.out.below Bz).cell 12 (.slice y.gA y.gn y.gc) rfl
                        go_wp2_with fail
                        have HB1 := Lib.hid (below_trans hB Bz)
                        have XX0 := Lib.hid (HX0.out.below Bz)
                        have XX1 := Lib.hid (HX1.out.below Bz)
                        clear hB Bz HX0 HX1
                        go_loopg [11] y.gn (fun gk s wr => SN2 w #[.int .i64 inp, .slice (some ⟨b, off, none⟩) ln lc] v1 #[.int .u8 y.kind, .slice y.rA y.rn y.rc, .slice y.bA y.bn y.bc, .int .i64 y.ch, .int .i64 y.high, .int .i64 y.wide, .int .i64 y.out, .int .i64 y.kh, .int .i64 y.kw, .int .i64 y.st, .int .i64 y.pad, .slice y.kA y.kn y.kc, .slice y.gA y.gn y.gc] y.groups (fun v => decide ((v.n : Int) ≤ units)) y.gn gk s wr)
                        case atStart => exact ⟨0, Nat.zero_le _, rfl, rfl, HB1.out, XX0.out, XX1.out, by simp⟩
                        case round =>
                          clear HB1 XX0 XX1
                          obtain ⟨j, hj, hgk2, rfl, hB, hx0, hx1, hd2⟩ := hrel
                          have HGK2 := Lib.hid hgk2
                          have HD2 := Lib.hid hd2
                          have HX0 := Lib.hid hx0
                          have HX1 := Lib.hid hx1
                          clear hgk2 hd2 hx0 hx1
                          have HGL := Lib.hid HY.out.groups.1
                          have HGS := Lib.hid HY.out.groups
                          by_cases hjt : j < y.gn
                          · obtain ⟨gb, goff, hgA, gel⟩ := HGS.out.at Gp.cs_len (by omega) (by omega)
                            rw [hgA] at HX1
                            obtain ⟨v, hv⟩ : ∃ v, y.groups[j]? = some v := ⟨y.groups[j]'(by rw [HGL.out]; exact hjt), List.getElem?_eq_getElem _⟩
                            have gnd : ElA w gb (goff + j) v.cs := by have := gel j v hv; rwa [Nat.mul_one] at this
                            have HGI := Lib.hid hv
                            have hvl : v.n ≤ 9223372036854775807 := by have := (HY.out.gok v (List.mem_of_getElem? hv)).1; unfold maxLen at this; omega
                            have j1 : (j : Int) < (y.gn : Int) := by omega
                            have j2 : (0 : Int) ≤ (j : Int) := by omega
                            clear hv gel
                            have HGA := Lib.hid hgA
                            clear hgA
                            cases hq : decide ((v.n : Int) ≤ units)
                            · have HQ := Lib.hid hq
                              have q1 : units < (v.n : Int) := by simpa using hq
                              clear hq
                              have Bz := Below.refl wr.heap.size wr
                              have p1_12 := (HX1.out.below Bz).cell 12 (.slice (some ⟨gb, goff, none⟩) y.gn y.gc) rfl
                              have p50_0 := (gnd.below (below_trans hB Bz)).c0 (u := .slice v.A v.n v.c) rfl
                              go_wp2_with fail
                              go_ret
                              have hF := below_trans (c := wr) hB Bz
                              have HP : smallLy units digits y = false := by unfold smallLy; rw [H1.out, H2.out, H3.out, H4.out, H5.out, H6.out, H7.out, H8.out, all_no HGI.out HQ.out]; rfl
                              obtain rfl : r = false := by rw [← hra.out]; exact all_no HTI.out HP
                              exact ⟨rfl, below_trans (below_trans hB Bz) (by go_grown)⟩
                            · have HQ := Lib.hid hq
                              have q1 : ¬ units < (v.n : Int) := by simpa using hq
                              clear hq
                              have Bz := Below.refl wr.heap.size wr
                              have p1_12 := (HX1.out.below Bz).cell 12 (.slice (some ⟨gb, goff, none⟩) y.gn y.gc) rfl
                              have p50_0 := (gnd.below (below_trans hB Bz)).c0 (u := .slice v.A v.n v.c) rfl
                              go_wp2_with fail
                              go_roundg (y.gn - (j + 1))
                              case measure => have := HGK2.out; omega
                              case rel => exact ⟨j + 1, by omega, rfl, by go_num, below_trans (below_trans hB Bz) (by go_grown), HX0.out.below (below_trans Bz (by go_grown)), (by have := HX1.out.below (below_trans Bz (by go_grown)); rwa [← HGA.out] at this), take_all HD2.out HGI.out HQ.out⟩
                          · obtain rfl : j = y.gn := by omega
                            have j1 : ¬ (y.gn : Int) < (y.gn : Int) := by omega
                            have HP : smallLy units digits y = true := by unfold smallLy; rw [H1.out, H2.out, H3.out, H4.out, H5.out, H6.out, H7.out, H8.out, all_yes HGL.out HD2.out]; rfl
                            have HPP := Lib.hid HP
                            clear HP
                            have Bz := Below.refl wr.heap.size wr
                            have p1_12 := (HX1.out.below Bz).cell 12 (.slice y.gA y.gn y.gc) rfl
                            go_wp2_with fail
                            go_roundg (ln - (i + 1))
                            case measure => have := HGK.out; omega
                            case rel => exact ⟨i + 1, by omega, rfl, by go_num, hB, HX0.out, take_all HD.out HTI.out HPP.out⟩
      · obtain rfl : i = ln := by omega
        have i1 : ¬ (i : Int) < (i : Int) := by omega
        obtain rfl : r = true := by rw [← hra.out]; exact all_yes HLN.out HD.out
        have Bz := Below.refl wr.heap.size wr
        have p0_1 := (HX0.out.below Bz).cell 1 (.slice lA i lc) rfl
        go_wp2_with fail
        go_ret
        exact ⟨rfl, hB⟩
end Go.Proofs.YtionhpangenhnaaDoor
