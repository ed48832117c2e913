/-
  The walk of tripwirelaw02.WholeRing. Written by wip/gen/ring.py.
-/
import Derived.Test.YtjlfcnkndndgaaaW12
import Derived.Test.YtjlfcnkndndgaaaIn
namespace Go.Proofs.Ytjlfcnkndndgaaa
open Go.RowKit Tw

/-- Which call is next. -/
structure Tok (n : Nat) : Prop where
  ok : True
theorem I.drew {w : World} {b : Bool} {A : Option Addr} {c l : Nat} {z : Int} (h : I w b A c l z) : I w.drew b A c l z := h.below (Below.drew (Below.refl _ _))
theorem J.drew {w : World} {b : Bool} {A : Option Addr} {c l : Nat} {z : Int} (h : J w b A c l z) : J w.drew b A c l z := h.below (Below.drew (Below.refl _ _))

set_option maxRecDepth 100000 in
set_option maxHeartbeats 8000000 in
theorem ring_small (sa sb sc : Bool) (A B' C' : Option Addr) (ca cb cc la lb lc : Nat) (a b c : Int) (w : World) (ha : I w sa A ca la a) (hb : I w sb B' cb lb b) (hc : I w sc C' cc lc c) (ha1 : la ≤ 40) (hb1 : lb ≤ 40) (hc1 : lc ≤ 40) :
    Calls Try.prog 3 #[.agg #[.bool sa, .slice A la ca], .agg #[.bool sb, .slice B' lb cb], .agg #[.bool sc, .slice C' lc cc]] w fun e w' => e = .returned (.bool true) ∧ Below w.heap.size w w' := by
  obtain ⟨W, hW, x0, x1, x2, hB⟩ := box2 w (.bool sa) (.slice A la ca) (.bool sb) (.slice B' lb cb) (.bool sc) (.slice C' lc cc)
  replace ha := ha.below hB
  replace hb := hb.below hB
  replace hc := hc.below hB
  have HX := Lib.hid x0
  have HY := Lib.hid x1
  have HZ := Lib.hid x2
  have Bz := Below.refl W.heap.size W
  have T : Tok 1 := ⟨trivial⟩
  clear x0 x1 x2
  go_enter Try.func3, Try.ntmps3
  go_wp2_with fail
  rw [← hW]
  clear hW
  with_reducible refine (short_z 40 true (by simp; omega)).mono ?_
  rintro e w0a ⟨rfl, bz⟩
  replace ha := ha.below bz
  replace hb := hb.below bz
  replace hc := hc.below bz
  replace Bz := below_trans Bz bz
  clear bz
  obtain ⟨⟨p1, p2⟩, _, _⟩ := (HX.out.below Bz).look; obtain ⟨⟨q1, q2⟩, _, _⟩ := (HY.out.below Bz).look; obtain ⟨⟨r1, r2⟩, _, _⟩ := (HZ.out.below Bz).look
  go_wp2_with fail
  with_reducible refine (short_z 40 true (by simp; omega)).mono ?_
  rintro e w0b ⟨rfl, bz⟩
  replace ha := ha.below bz
  replace hb := hb.below bz
  replace hc := hc.below bz
  replace Bz := below_trans Bz bz
  clear bz
  obtain ⟨⟨p1, p2⟩, _, _⟩ := (HX.out.below Bz).look; obtain ⟨⟨q1, q2⟩, _, _⟩ := (HY.out.below Bz).look; obtain ⟨⟨r1, r2⟩, _, _⟩ := (HZ.out.below Bz).look
  go_wp2_with fail
  with_reducible refine (short_z 40 true (by simp; omega)).mono ?_
  rintro e w0 ⟨rfl, bz⟩
  replace ha := ha.below bz
  replace hb := hb.below bz
  replace hc := hc.below bz
  replace Bz := below_trans Bz bz
  clear bz
  obtain ⟨⟨p1, p2⟩, _, _⟩ := (HX.out.below Bz).look; obtain ⟨⟨q1, q2⟩, _, _⟩ := (HY.out.below Bz).look; obtain ⟨⟨r1, r2⟩, _, _⟩ := (HZ.out.below Bz).look
  go_wp2_with fail
  go_region_held3 (fun w' => w'.cell? ⟨w.heap.size, 0, none⟩ = some (.bool sa) ∧ w'.cell? ⟨w.heap.size, 1, none⟩ = some (.slice A la ca) ∧ w'.cell? ⟨w.heap.size + 1, 0, none⟩ = some (.bool sb) ∧ w'.cell? ⟨w.heap.size + 1, 1, none⟩ = some (.slice B' lb cb) ∧ w'.cell? ⟨w.heap.size + 2, 0, none⟩ = some (.bool sc) ∧ w'.cell? ⟨w.heap.size + 2, 1, none⟩ = some (.slice C' lc cc))
    (first | exact ⟨p1, p2, q1, q2, r1, r2⟩ | go_keep)
    (first
      | (have _t : Tok 1 := T; go_at_call 8; (with_reducible refine (add_z (by repeat (first | exact ha | apply I.drew)) (by repeat (first | exact hb | apply I.drew)) (by omega)).mono ?_); rintro e w1 ⟨s1, A1, c1, l1, rfl, h1, m1, b1⟩; replace b1 := below_trans (a := w0) (by go_grown) b1; replace ha := ha.below b1; replace hb := hb.below b1; replace hc := hc.below b1; replace Bz := below_trans Bz b1; obtain ⟨⟨p1, p2⟩, _, _⟩ := (HX.out.below Bz).look; obtain ⟨⟨q1, q2⟩, _, _⟩ := (HY.out.below Bz).look; obtain ⟨⟨r1, r2⟩, _, _⟩ := (HZ.out.below Bz).look; replace T : Tok 2 := ⟨trivial⟩)
      | (have _t : Tok 2 := T; go_at_call 8; (with_reducible refine (add_z (by repeat (first | exact hb | apply I.drew)) (by repeat (first | exact ha | apply I.drew)) (by omega)).mono ?_); rintro e w2 ⟨s2, A2, c2, l2, rfl, h2, m2, b2⟩; replace b2 := below_trans (a := w1) (by go_grown) b2; replace ha := ha.below b2; replace hb := hb.below b2; replace hc := hc.below b2; replace h1 := h1.below b2; replace Bz := below_trans Bz b2; obtain ⟨⟨p1, p2⟩, _, _⟩ := (HX.out.below Bz).look; obtain ⟨⟨q1, q2⟩, _, _⟩ := (HY.out.below Bz).look; obtain ⟨⟨r1, r2⟩, _, _⟩ := (HZ.out.below Bz).look; replace T : Tok 3 := ⟨trivial⟩)
      | (have _t : Tok 3 := T; go_at_call 7; (with_reducible refine (same_z (by repeat (first | exact h1 | apply J.drew)) (by repeat (first | exact h2 | apply J.drew)) (by omega) (Int.add_comm a b)).mono ?_); rintro e w3 ⟨rfl, b3⟩; replace b3 := below_trans (a := w2) (by go_grown) b3; replace ha := ha.below b3; replace hb := hb.below b3; replace hc := hc.below b3; replace Bz := below_trans Bz b3; obtain ⟨⟨p1, p2⟩, _, _⟩ := (HX.out.below Bz).look; obtain ⟨⟨q1, q2⟩, _, _⟩ := (HY.out.below Bz).look; obtain ⟨⟨r1, r2⟩, _, _⟩ := (HZ.out.below Bz).look; replace T : Tok 4 := ⟨trivial⟩)
      | (have _t : Tok 4 := T; go_at_call 8; (with_reducible refine (add_z (by repeat (first | exact ha | apply I.drew)) (by repeat (first | exact hb | apply I.drew)) (by omega)).mono ?_); rintro e w4 ⟨s4, A4, c4, l4, rfl, h4, m4, b4⟩; replace b4 := below_trans (a := w3) (by go_grown) b4; replace ha := ha.below b4; replace hb := hb.below b4; replace hc := hc.below b4; replace Bz := below_trans Bz b4; obtain ⟨⟨p1, p2⟩, _, _⟩ := (HX.out.below Bz).look; obtain ⟨⟨q1, q2⟩, _, _⟩ := (HY.out.below Bz).look; obtain ⟨⟨r1, r2⟩, _, _⟩ := (HZ.out.below Bz).look; replace T : Tok 5 := ⟨trivial⟩)
      | (have _t : Tok 5 := T; go_at_call 8; (with_reducible refine (add_z (by repeat (first | exact h4.i | apply I.drew)) (by repeat (first | exact hc | apply I.drew)) (by omega)).mono ?_); rintro e w5 ⟨s5, A5, c5, l5, rfl, h5, m5, b5⟩; replace b5 := below_trans (a := w4) (by go_grown) b5; replace ha := ha.below b5; replace hb := hb.below b5; replace hc := hc.below b5; replace Bz := below_trans Bz b5; obtain ⟨⟨p1, p2⟩, _, _⟩ := (HX.out.below Bz).look; obtain ⟨⟨q1, q2⟩, _, _⟩ := (HY.out.below Bz).look; obtain ⟨⟨r1, r2⟩, _, _⟩ := (HZ.out.below Bz).look; replace T : Tok 6 := ⟨trivial⟩)
      | (have _t : Tok 6 := T; go_at_call 8; (with_reducible refine (add_z (by repeat (first | exact hb | apply I.drew)) (by repeat (first | exact hc | apply I.drew)) (by omega)).mono ?_); rintro e w6 ⟨s6, A6, c6, l6, rfl, h6, m6, b6⟩; replace b6 := below_trans (a := w5) (by go_grown) b6; replace ha := ha.below b6; replace hb := hb.below b6; replace hc := hc.below b6; replace h5 := h5.below b6; replace Bz := below_trans Bz b6; obtain ⟨⟨p1, p2⟩, _, _⟩ := (HX.out.below Bz).look; obtain ⟨⟨q1, q2⟩, _, _⟩ := (HY.out.below Bz).look; obtain ⟨⟨r1, r2⟩, _, _⟩ := (HZ.out.below Bz).look; replace T : Tok 7 := ⟨trivial⟩)
      | (have _t : Tok 7 := T; go_at_call 8; (with_reducible refine (add_z (by repeat (first | exact ha | apply I.drew)) (by repeat (first | exact h6.i | apply I.drew)) (by omega)).mono ?_); rintro e w7 ⟨s7, A7, c7, l7, rfl, h7, m7, b7⟩; replace b7 := below_trans (a := w6) (by go_grown) b7; replace ha := ha.below b7; replace hb := hb.below b7; replace hc := hc.below b7; replace h5 := h5.below b7; replace Bz := below_trans Bz b7; obtain ⟨⟨p1, p2⟩, _, _⟩ := (HX.out.below Bz).look; obtain ⟨⟨q1, q2⟩, _, _⟩ := (HY.out.below Bz).look; obtain ⟨⟨r1, r2⟩, _, _⟩ := (HZ.out.below Bz).look; replace T : Tok 8 := ⟨trivial⟩)
      | (have _t : Tok 8 := T; go_at_call 7; (with_reducible refine (same_z (by repeat (first | exact h5 | apply J.drew)) (by repeat (first | exact h7 | apply J.drew)) (by omega) (Int.add_assoc a b c)).mono ?_); rintro e w8 ⟨rfl, b8⟩; replace b8 := below_trans (a := w7) (by go_grown) b8; replace ha := ha.below b8; replace hb := hb.below b8; replace hc := hc.below b8; replace Bz := below_trans Bz b8; obtain ⟨⟨p1, p2⟩, _, _⟩ := (HX.out.below Bz).look; obtain ⟨⟨q1, q2⟩, _, _⟩ := (HY.out.below Bz).look; obtain ⟨⟨r1, r2⟩, _, _⟩ := (HZ.out.below Bz).look; replace T : Tok 9 := ⟨trivial⟩)
      | (have _t : Tok 9 := T; go_at_call 10; (with_reducible refine (sub_z (by repeat (first | exact ha | apply I.drew)) (by repeat (first | exact ha | apply I.drew)) (by omega)).mono ?_); rintro e w9 ⟨s9, A9, c9, l9, rfl, h9, m9, b9⟩; replace b9 := below_trans (a := w8) (by go_grown) b9; replace ha := ha.below b9; replace hb := hb.below b9; replace hc := hc.below b9; replace Bz := below_trans Bz b9; obtain ⟨⟨p1, p2⟩, _, _⟩ := (HX.out.below Bz).look; obtain ⟨⟨q1, q2⟩, _, _⟩ := (HY.out.below Bz).look; obtain ⟨⟨r1, r2⟩, _, _⟩ := (HZ.out.below Bz).look; replace T : Tok 10 := ⟨trivial⟩)
      | (have _t : Tok 10 := T; go_at_call 9; (with_reducible refine (is_e (by repeat (first | exact h9 | apply J.drew)) (Int.sub_self a) (Lib.hid (by decide))).mono ?_); rintro e w10 ⟨rfl, b10⟩; replace b10 := below_trans (a := w9) (by go_grown) b10; replace ha := ha.below b10; replace hb := hb.below b10; replace hc := hc.below b10; replace Bz := below_trans Bz b10; obtain ⟨⟨p1, p2⟩, _, _⟩ := (HX.out.below Bz).look; obtain ⟨⟨q1, q2⟩, _, _⟩ := (HY.out.below Bz).look; obtain ⟨⟨r1, r2⟩, _, _⟩ := (HZ.out.below Bz).look; replace T : Tok 11 := ⟨trivial⟩)
      | (have _t : Tok 11 := T; go_at_call 11; (with_reducible refine (neg_z (by repeat (first | exact ha | apply I.drew)) (by omega)).mono ?_); rintro e w11 ⟨s11, A11, c11, l11, rfl, h11, m11, b11⟩; replace b11 := below_trans (a := w10) (by go_grown) b11; replace ha := ha.below b11; replace hb := hb.below b11; replace hc := hc.below b11; replace Bz := below_trans Bz b11; obtain ⟨⟨p1, p2⟩, _, _⟩ := (HX.out.below Bz).look; obtain ⟨⟨q1, q2⟩, _, _⟩ := (HY.out.below Bz).look; obtain ⟨⟨r1, r2⟩, _, _⟩ := (HZ.out.below Bz).look; replace T : Tok 12 := ⟨trivial⟩)
      | (have _t : Tok 12 := T; go_at_call 8; (with_reducible refine (add_z (by repeat (first | exact ha | apply I.drew)) (by repeat (first | exact h11.i | apply I.drew)) (by omega)).mono ?_); rintro e w12 ⟨s12, A12, c12, l12, rfl, h12, m12, b12⟩; replace b12 := below_trans (a := w11) (by go_grown) b12; replace ha := ha.below b12; replace hb := hb.below b12; replace hc := hc.below b12; replace Bz := below_trans Bz b12; obtain ⟨⟨p1, p2⟩, _, _⟩ := (HX.out.below Bz).look; obtain ⟨⟨q1, q2⟩, _, _⟩ := (HY.out.below Bz).look; obtain ⟨⟨r1, r2⟩, _, _⟩ := (HZ.out.below Bz).look; replace T : Tok 13 := ⟨trivial⟩)
      | (have _t : Tok 13 := T; go_at_call 9; (with_reducible refine (is_e (by repeat (first | exact h12 | apply J.drew)) (Int.add_right_neg a) (Lib.hid (by decide))).mono ?_); rintro e w13 ⟨rfl, b13⟩; replace b13 := below_trans (a := w12) (by go_grown) b13; replace ha := ha.below b13; replace hb := hb.below b13; replace hc := hc.below b13; replace Bz := below_trans Bz b13; obtain ⟨⟨p1, p2⟩, _, _⟩ := (HX.out.below Bz).look; obtain ⟨⟨q1, q2⟩, _, _⟩ := (HY.out.below Bz).look; obtain ⟨⟨r1, r2⟩, _, _⟩ := (HZ.out.below Bz).look; replace T : Tok 14 := ⟨trivial⟩)
      | (have _t : Tok 14 := T; go_at_call 8; (with_reducible refine (add_z (by repeat (first | exact ha | apply I.drew)) (by repeat (first | exact hb | apply I.drew)) (by omega)).mono ?_); rintro e w14 ⟨s14, A14, c14, l14, rfl, h14, m14, b14⟩; replace b14 := below_trans (a := w13) (by go_grown) b14; replace ha := ha.below b14; replace hb := hb.below b14; replace hc := hc.below b14; replace Bz := below_trans Bz b14; obtain ⟨⟨p1, p2⟩, _, _⟩ := (HX.out.below Bz).look; obtain ⟨⟨q1, q2⟩, _, _⟩ := (HY.out.below Bz).look; obtain ⟨⟨r1, r2⟩, _, _⟩ := (HZ.out.below Bz).look; replace T : Tok 15 := ⟨trivial⟩)
      | (have _t : Tok 15 := T; go_at_call 10; (with_reducible refine (sub_z (by repeat (first | exact h14.i | apply I.drew)) (by repeat (first | exact hb | apply I.drew)) (by omega)).mono ?_); rintro e w15 ⟨s15, A15, c15, l15, rfl, h15, m15, b15⟩; replace b15 := below_trans (a := w14) (by go_grown) b15; replace ha := ha.below b15; replace hb := hb.below b15; replace hc := hc.below b15; replace Bz := below_trans Bz b15; obtain ⟨⟨p1, p2⟩, _, _⟩ := (HX.out.below Bz).look; obtain ⟨⟨q1, q2⟩, _, _⟩ := (HY.out.below Bz).look; obtain ⟨⟨r1, r2⟩, _, _⟩ := (HZ.out.below Bz).look; replace T : Tok 16 := ⟨trivial⟩)
      | (have _t : Tok 16 := T; go_at_call 12; (with_reducible refine (norm_z (by repeat (first | exact ha | apply I.drew)) (by omega)).mono ?_); rintro e w16 ⟨s16, A16, c16, l16, rfl, h16, m16, b16⟩; replace b16 := below_trans (a := w15) (by go_grown) b16; replace ha := ha.below b16; replace hb := hb.below b16; replace hc := hc.below b16; replace h15 := h15.below b16; replace Bz := below_trans Bz b16; obtain ⟨⟨p1, p2⟩, _, _⟩ := (HX.out.below Bz).look; obtain ⟨⟨q1, q2⟩, _, _⟩ := (HY.out.below Bz).look; obtain ⟨⟨r1, r2⟩, _, _⟩ := (HZ.out.below Bz).look; replace T : Tok 17 := ⟨trivial⟩)
      | (have _t : Tok 17 := T; go_at_call 7; (with_reducible refine (same_z (by repeat (first | exact h15 | apply J.drew)) (by repeat (first | exact h16 | apply J.drew)) (by omega) (Int.add_sub_cancel a b)).mono ?_); rintro e w17 ⟨rfl, b17⟩; replace b17 := below_trans (a := w16) (by go_grown) b17; replace ha := ha.below b17; replace hb := hb.below b17; replace hc := hc.below b17; replace Bz := below_trans Bz b17; obtain ⟨⟨p1, p2⟩, _, _⟩ := (HX.out.below Bz).look; obtain ⟨⟨q1, q2⟩, _, _⟩ := (HY.out.below Bz).look; obtain ⟨⟨r1, r2⟩, _, _⟩ := (HZ.out.below Bz).look; replace T : Tok 18 := ⟨trivial⟩)
      | (have _t : Tok 18 := T; go_at_call 11; (with_reducible refine (neg_z (by repeat (first | exact ha | apply I.drew)) (by omega)).mono ?_); rintro e w18 ⟨s18, A18, c18, l18, rfl, h18, m18, b18⟩; replace b18 := below_trans (a := w17) (by go_grown) b18; replace ha := ha.below b18; replace hb := hb.below b18; replace hc := hc.below b18; replace Bz := below_trans Bz b18; obtain ⟨⟨p1, p2⟩, _, _⟩ := (HX.out.below Bz).look; obtain ⟨⟨q1, q2⟩, _, _⟩ := (HY.out.below Bz).look; obtain ⟨⟨r1, r2⟩, _, _⟩ := (HZ.out.below Bz).look; replace T : Tok 19 := ⟨trivial⟩)
      | (have _t : Tok 19 := T; go_at_call 11; (with_reducible refine (neg_z (by repeat (first | exact h18.i | apply I.drew)) (by omega)).mono ?_); rintro e w19 ⟨s19, A19, c19, l19, rfl, h19, m19, b19⟩; replace b19 := below_trans (a := w18) (by go_grown) b19; replace ha := ha.below b19; replace hb := hb.below b19; replace hc := hc.below b19; replace Bz := below_trans Bz b19; obtain ⟨⟨p1, p2⟩, _, _⟩ := (HX.out.below Bz).look; obtain ⟨⟨q1, q2⟩, _, _⟩ := (HY.out.below Bz).look; obtain ⟨⟨r1, r2⟩, _, _⟩ := (HZ.out.below Bz).look; replace T : Tok 20 := ⟨trivial⟩)
      | (have _t : Tok 20 := T; go_at_call 12; (with_reducible refine (norm_z (by repeat (first | exact ha | apply I.drew)) (by omega)).mono ?_); rintro e w20 ⟨s20, A20, c20, l20, rfl, h20, m20, b20⟩; replace b20 := below_trans (a := w19) (by go_grown) b20; replace ha := ha.below b20; replace hb := hb.below b20; replace hc := hc.below b20; replace h19 := h19.below b20; replace Bz := below_trans Bz b20; obtain ⟨⟨p1, p2⟩, _, _⟩ := (HX.out.below Bz).look; obtain ⟨⟨q1, q2⟩, _, _⟩ := (HY.out.below Bz).look; obtain ⟨⟨r1, r2⟩, _, _⟩ := (HZ.out.below Bz).look; replace T : Tok 21 := ⟨trivial⟩)
      | (have _t : Tok 21 := T; go_at_call 7; (with_reducible refine (same_z (by repeat (first | exact h19 | apply J.drew)) (by repeat (first | exact h20 | apply J.drew)) (by omega) (Int.neg_neg a)).mono ?_); rintro e w21 ⟨rfl, b21⟩; replace b21 := below_trans (a := w20) (by go_grown) b21; replace ha := ha.below b21; replace hb := hb.below b21; replace hc := hc.below b21; replace Bz := below_trans Bz b21; obtain ⟨⟨p1, p2⟩, _, _⟩ := (HX.out.below Bz).look; obtain ⟨⟨q1, q2⟩, _, _⟩ := (HY.out.below Bz).look; obtain ⟨⟨r1, r2⟩, _, _⟩ := (HZ.out.below Bz).look; replace T : Tok 22 := ⟨trivial⟩))
  go_wp2_with fail
  go_region_held3 (fun w' => w'.cell? ⟨w.heap.size, 0, none⟩ = some (.bool sa) ∧ w'.cell? ⟨w.heap.size, 1, none⟩ = some (.slice A la ca) ∧ w'.cell? ⟨w.heap.size + 1, 0, none⟩ = some (.bool sb) ∧ w'.cell? ⟨w.heap.size + 1, 1, none⟩ = some (.slice B' lb cb) ∧ w'.cell? ⟨w.heap.size + 2, 0, none⟩ = some (.bool sc) ∧ w'.cell? ⟨w.heap.size + 2, 1, none⟩ = some (.slice C' lc cc))
    (first | exact ⟨p1, p2, q1, q2, r1, r2⟩ | go_keep)
    (first
      | (have _t : Tok 22 := T; go_at_call 13; (with_reducible refine (mul_z (by repeat (first | exact ha | apply I.drew)) (by repeat (first | exact hb | apply I.drew)) (by omega)).mono ?_); rintro e w22 ⟨s22, A22, c22, l22, rfl, h22, m22, b22⟩; replace b22 := below_trans (a := w21) (by go_grown) b22; replace ha := ha.below b22; replace hb := hb.below b22; replace hc := hc.below b22; replace Bz := below_trans Bz b22; obtain ⟨⟨p1, p2⟩, _, _⟩ := (HX.out.below Bz).look; obtain ⟨⟨q1, q2⟩, _, _⟩ := (HY.out.below Bz).look; obtain ⟨⟨r1, r2⟩, _, _⟩ := (HZ.out.below Bz).look; replace T : Tok 23 := ⟨trivial⟩)
      | (have _t : Tok 23 := T; go_at_call 13; (with_reducible refine (mul_z (by repeat (first | exact hb | apply I.drew)) (by repeat (first | exact ha | apply I.drew)) (by omega)).mono ?_); rintro e w23 ⟨s23, A23, c23, l23, rfl, h23, m23, b23⟩; replace b23 := below_trans (a := w22) (by go_grown) b23; replace ha := ha.below b23; replace hb := hb.below b23; replace hc := hc.below b23; replace h22 := h22.below b23; replace Bz := below_trans Bz b23; obtain ⟨⟨p1, p2⟩, _, _⟩ := (HX.out.below Bz).look; obtain ⟨⟨q1, q2⟩, _, _⟩ := (HY.out.below Bz).look; obtain ⟨⟨r1, r2⟩, _, _⟩ := (HZ.out.below Bz).look; replace T : Tok 24 := ⟨trivial⟩)
      | (have _t : Tok 24 := T; go_at_call 7; (with_reducible refine (same_z (by repeat (first | exact h22 | apply J.drew)) (by repeat (first | exact h23 | apply J.drew)) (by omega) (Int.mul_comm a b)).mono ?_); rintro e w24 ⟨rfl, b24⟩; replace b24 := below_trans (a := w23) (by go_grown) b24; replace ha := ha.below b24; replace hb := hb.below b24; replace hc := hc.below b24; replace Bz := below_trans Bz b24; obtain ⟨⟨p1, p2⟩, _, _⟩ := (HX.out.below Bz).look; obtain ⟨⟨q1, q2⟩, _, _⟩ := (HY.out.below Bz).look; obtain ⟨⟨r1, r2⟩, _, _⟩ := (HZ.out.below Bz).look; replace T : Tok 25 := ⟨trivial⟩)
      | (have _t : Tok 25 := T; go_at_call 13; (with_reducible refine (mul_z (by repeat (first | exact ha | apply I.drew)) (by repeat (first | exact hb | apply I.drew)) (by omega)).mono ?_); rintro e w25 ⟨s25, A25, c25, l25, rfl, h25, m25, b25⟩; replace b25 := below_trans (a := w24) (by go_grown) b25; replace ha := ha.below b25; replace hb := hb.below b25; replace hc := hc.below b25; replace Bz := below_trans Bz b25; obtain ⟨⟨p1, p2⟩, _, _⟩ := (HX.out.below Bz).look; obtain ⟨⟨q1, q2⟩, _, _⟩ := (HY.out.below Bz).look; obtain ⟨⟨r1, r2⟩, _, _⟩ := (HZ.out.below Bz).look; replace T : Tok 26 := ⟨trivial⟩)
      | (have _t : Tok 26 := T; go_at_call 13; (with_reducible refine (mul_z (by repeat (first | exact h25.i | apply I.drew)) (by repeat (first | exact hc | apply I.drew)) (by omega)).mono ?_); rintro e w26 ⟨s26, A26, c26, l26, rfl, h26, m26, b26⟩; replace b26 := below_trans (a := w25) (by go_grown) b26; replace ha := ha.below b26; replace hb := hb.below b26; replace hc := hc.below b26; replace Bz := below_trans Bz b26; obtain ⟨⟨p1, p2⟩, _, _⟩ := (HX.out.below Bz).look; obtain ⟨⟨q1, q2⟩, _, _⟩ := (HY.out.below Bz).look; obtain ⟨⟨r1, r2⟩, _, _⟩ := (HZ.out.below Bz).look; replace T : Tok 27 := ⟨trivial⟩)
      | (have _t : Tok 27 := T; go_at_call 13; (with_reducible refine (mul_z (by repeat (first | exact hb | apply I.drew)) (by repeat (first | exact hc | apply I.drew)) (by omega)).mono ?_); rintro e w27 ⟨s27, A27, c27, l27, rfl, h27, m27, b27⟩; replace b27 := below_trans (a := w26) (by go_grown) b27; replace ha := ha.below b27; replace hb := hb.below b27; replace hc := hc.below b27; replace h26 := h26.below b27; replace Bz := below_trans Bz b27; obtain ⟨⟨p1, p2⟩, _, _⟩ := (HX.out.below Bz).look; obtain ⟨⟨q1, q2⟩, _, _⟩ := (HY.out.below Bz).look; obtain ⟨⟨r1, r2⟩, _, _⟩ := (HZ.out.below Bz).look; replace T : Tok 28 := ⟨trivial⟩)
      | (have _t : Tok 28 := T; go_at_call 13; (with_reducible refine (mul_z (by repeat (first | exact ha | apply I.drew)) (by repeat (first | exact h27.i | apply I.drew)) (by omega)).mono ?_); rintro e w28 ⟨s28, A28, c28, l28, rfl, h28, m28, b28⟩; replace b28 := below_trans (a := w27) (by go_grown) b28; replace ha := ha.below b28; replace hb := hb.below b28; replace hc := hc.below b28; replace h26 := h26.below b28; replace Bz := below_trans Bz b28; obtain ⟨⟨p1, p2⟩, _, _⟩ := (HX.out.below Bz).look; obtain ⟨⟨q1, q2⟩, _, _⟩ := (HY.out.below Bz).look; obtain ⟨⟨r1, r2⟩, _, _⟩ := (HZ.out.below Bz).look; replace T : Tok 29 := ⟨trivial⟩)
      | (have _t : Tok 29 := T; go_at_call 7; (with_reducible refine (same_z (by repeat (first | exact h26 | apply J.drew)) (by repeat (first | exact h28 | apply J.drew)) (by omega) (Int.mul_assoc a b c)).mono ?_); rintro e w29 ⟨rfl, b29⟩; replace b29 := below_trans (a := w28) (by go_grown) b29; replace ha := ha.below b29; replace hb := hb.below b29; replace hc := hc.below b29; replace Bz := below_trans Bz b29; obtain ⟨⟨p1, p2⟩, _, _⟩ := (HX.out.below Bz).look; obtain ⟨⟨q1, q2⟩, _, _⟩ := (HY.out.below Bz).look; obtain ⟨⟨r1, r2⟩, _, _⟩ := (HZ.out.below Bz).look; replace T : Tok 30 := ⟨trivial⟩)
      | (have _t : Tok 30 := T; go_at_call 10; (with_reducible refine (sub_z (by repeat (first | exact hb | apply I.drew)) (by repeat (first | exact hc | apply I.drew)) (by omega)).mono ?_); rintro e w30 ⟨s30, A30, c30, l30, rfl, h30, m30, b30⟩; replace b30 := below_trans (a := w29) (by go_grown) b30; replace ha := ha.below b30; replace hb := hb.below b30; replace hc := hc.below b30; replace Bz := below_trans Bz b30; obtain ⟨⟨p1, p2⟩, _, _⟩ := (HX.out.below Bz).look; obtain ⟨⟨q1, q2⟩, _, _⟩ := (HY.out.below Bz).look; obtain ⟨⟨r1, r2⟩, _, _⟩ := (HZ.out.below Bz).look; replace T : Tok 31 := ⟨trivial⟩)
      | (have _t : Tok 31 := T; go_at_call 13; (with_reducible refine (mul_z (by repeat (first | exact ha | apply I.drew)) (by repeat (first | exact h30.i | apply I.drew)) (by omega)).mono ?_); rintro e w31 ⟨s31, A31, c31, l31, rfl, h31, m31, b31⟩; replace b31 := below_trans (a := w30) (by go_grown) b31; replace ha := ha.below b31; replace hb := hb.below b31; replace hc := hc.below b31; replace Bz := below_trans Bz b31; obtain ⟨⟨p1, p2⟩, _, _⟩ := (HX.out.below Bz).look; obtain ⟨⟨q1, q2⟩, _, _⟩ := (HY.out.below Bz).look; obtain ⟨⟨r1, r2⟩, _, _⟩ := (HZ.out.below Bz).look; replace T : Tok 32 := ⟨trivial⟩)
      | (have _t : Tok 32 := T; go_at_call 13; (with_reducible refine (mul_z (by repeat (first | exact ha | apply I.drew)) (by repeat (first | exact hb | apply I.drew)) (by omega)).mono ?_); rintro e w32 ⟨s32, A32, c32, l32, rfl, h32, m32, b32⟩; replace b32 := below_trans (a := w31) (by go_grown) b32; replace ha := ha.below b32; replace hb := hb.below b32; replace hc := hc.below b32; replace h31 := h31.below b32; replace Bz := below_trans Bz b32; obtain ⟨⟨p1, p2⟩, _, _⟩ := (HX.out.below Bz).look; obtain ⟨⟨q1, q2⟩, _, _⟩ := (HY.out.below Bz).look; obtain ⟨⟨r1, r2⟩, _, _⟩ := (HZ.out.below Bz).look; replace T : Tok 33 := ⟨trivial⟩)
      | (have _t : Tok 33 := T; go_at_call 13; (with_reducible refine (mul_z (by repeat (first | exact ha | apply I.drew)) (by repeat (first | exact hc | apply I.drew)) (by omega)).mono ?_); rintro e w33 ⟨s33, A33, c33, l33, rfl, h33, m33, b33⟩; replace b33 := below_trans (a := w32) (by go_grown) b33; replace ha := ha.below b33; replace hb := hb.below b33; replace h31 := h31.below b33; replace h32 := h32.below b33; replace Bz := below_trans Bz b33; obtain ⟨⟨p1, p2⟩, _, _⟩ := (HX.out.below Bz).look; obtain ⟨⟨q1, q2⟩, _, _⟩ := (HY.out.below Bz).look; obtain ⟨⟨r1, r2⟩, _, _⟩ := (HZ.out.below Bz).look; replace T : Tok 34 := ⟨trivial⟩)
      | (have _t : Tok 34 := T; go_at_call 10; (with_reducible refine (sub_z (by repeat (first | exact h32.i | apply I.drew)) (by repeat (first | exact h33.i | apply I.drew)) (by omega)).mono ?_); rintro e w34 ⟨s34, A34, c34, l34, rfl, h34, m34, b34⟩; replace b34 := below_trans (a := w33) (by go_grown) b34; replace ha := ha.below b34; replace hb := hb.below b34; replace h31 := h31.below b34; replace Bz := below_trans Bz b34; obtain ⟨⟨p1, p2⟩, _, _⟩ := (HX.out.below Bz).look; obtain ⟨⟨q1, q2⟩, _, _⟩ := (HY.out.below Bz).look; obtain ⟨⟨r1, r2⟩, _, _⟩ := (HZ.out.below Bz).look; replace T : Tok 35 := ⟨trivial⟩)
      | (have _t : Tok 35 := T; go_at_call 7; (with_reducible refine (same_z (by repeat (first | exact h31 | apply J.drew)) (by repeat (first | exact h34 | apply J.drew)) (by omega) (Int.mul_sub a b c)).mono ?_); rintro e w35 ⟨rfl, b35⟩; replace b35 := below_trans (a := w34) (by go_grown) b35; replace ha := ha.below b35; replace hb := hb.below b35; replace Bz := below_trans Bz b35; obtain ⟨⟨p1, p2⟩, _, _⟩ := (HX.out.below Bz).look; obtain ⟨⟨q1, q2⟩, _, _⟩ := (HY.out.below Bz).look; obtain ⟨⟨r1, r2⟩, _, _⟩ := (HZ.out.below Bz).look; replace T : Tok 36 := ⟨trivial⟩)
      | (have _t : Tok 36 := T; go_at_call 11; (with_reducible refine (neg_z (by repeat (first | exact ha | apply I.drew)) (by omega)).mono ?_); rintro e w36 ⟨s36, A36, c36, l36, rfl, h36, m36, b36⟩; replace b36 := below_trans (a := w35) (by go_grown) b36; replace ha := ha.below b36; replace hb := hb.below b36; replace Bz := below_trans Bz b36; obtain ⟨⟨p1, p2⟩, _, _⟩ := (HX.out.below Bz).look; obtain ⟨⟨q1, q2⟩, _, _⟩ := (HY.out.below Bz).look; obtain ⟨⟨r1, r2⟩, _, _⟩ := (HZ.out.below Bz).look; replace T : Tok 37 := ⟨trivial⟩)
      | (have _t : Tok 37 := T; go_at_call 13; (with_reducible refine (mul_z (by repeat (first | exact h36.i | apply I.drew)) (by repeat (first | exact hb | apply I.drew)) (by omega)).mono ?_); rintro e w37 ⟨s37, A37, c37, l37, rfl, h37, m37, b37⟩; replace b37 := below_trans (a := w36) (by go_grown) b37; replace ha := ha.below b37; replace hb := hb.below b37; replace Bz := below_trans Bz b37; obtain ⟨⟨p1, p2⟩, _, _⟩ := (HX.out.below Bz).look; obtain ⟨⟨q1, q2⟩, _, _⟩ := (HY.out.below Bz).look; obtain ⟨⟨r1, r2⟩, _, _⟩ := (HZ.out.below Bz).look; replace T : Tok 38 := ⟨trivial⟩)
      | (have _t : Tok 38 := T; go_at_call 13; (with_reducible refine (mul_z (by repeat (first | exact ha | apply I.drew)) (by repeat (first | exact hb | apply I.drew)) (by omega)).mono ?_); rintro e w38 ⟨s38, A38, c38, l38, rfl, h38, m38, b38⟩; replace b38 := below_trans (a := w37) (by go_grown) b38; replace h37 := h37.below b38; replace Bz := below_trans Bz b38; obtain ⟨⟨p1, p2⟩, _, _⟩ := (HX.out.below Bz).look; obtain ⟨⟨q1, q2⟩, _, _⟩ := (HY.out.below Bz).look; obtain ⟨⟨r1, r2⟩, _, _⟩ := (HZ.out.below Bz).look; replace T : Tok 39 := ⟨trivial⟩)
      | (have _t : Tok 39 := T; go_at_call 11; (with_reducible refine (neg_z (by repeat (first | exact h38.i | apply I.drew)) (by omega)).mono ?_); rintro e w39 ⟨s39, A39, c39, l39, rfl, h39, m39, b39⟩; replace b39 := below_trans (a := w38) (by go_grown) b39; replace h37 := h37.below b39; replace Bz := below_trans Bz b39; obtain ⟨⟨p1, p2⟩, _, _⟩ := (HX.out.below Bz).look; obtain ⟨⟨q1, q2⟩, _, _⟩ := (HY.out.below Bz).look; obtain ⟨⟨r1, r2⟩, _, _⟩ := (HZ.out.below Bz).look; replace T : Tok 40 := ⟨trivial⟩)
      | (have _t : Tok 40 := T; go_at_call 7; (with_reducible refine (same_z (by repeat (first | exact h37 | apply J.drew)) (by repeat (first | exact h39 | apply J.drew)) (by omega) (Int.neg_mul a b)).mono ?_); rintro e w40 ⟨rfl, b40⟩; replace b40 := below_trans (a := w39) (by go_grown) b40; replace Bz := below_trans Bz b40; obtain ⟨⟨p1, p2⟩, _, _⟩ := (HX.out.below Bz).look; obtain ⟨⟨q1, q2⟩, _, _⟩ := (HY.out.below Bz).look; obtain ⟨⟨r1, r2⟩, _, _⟩ := (HZ.out.below Bz).look; replace T : Tok 41 := ⟨trivial⟩))
  go_wp2_with fail
  refine (awake2 _).mono ?_
  rintro e wz ⟨rfl, bz⟩
  go_wp2_with fail
  go_ret
  exact ⟨rfl, below_trans (below_trans hB Bz) (below_trans (by go_grown) bz)⟩
theorem ring_law {sa sb sc : Bool} {A B' C' : Option Addr} {ca cb cc la lb lc : Nat} {w : World} (ha : InI w sa A la ca) (hb : InI w sb B' lb cb) (hc : InI w sc C' lc cc) :
    Calls Try.prog 3 #[.agg #[.bool sa, .slice A la ca], .agg #[.bool sb, .slice B' lb cb], .agg #[.bool sc, .slice C' lc cc]] w fun e w' => e = .returned (.bool true) ∧ Below w.heap.size w w' := by
  obtain ⟨⟨a, ha⟩, ha1⟩ := ha
  obtain ⟨⟨b, hb⟩, hb1⟩ := hb
  obtain ⟨⟨c, hc⟩, hc1⟩ := hc
  by_cases g1 : la ≤ 40 ∧ lb ≤ 40 ∧ lc ≤ 40
  · exact ring_small sa sb sc A B' C' ca cb cc la lb lc a b c w ha hb hc g1.1 g1.2.1 g1.2.2
  · obtain ⟨t1, e1⟩ : ∃ t, decide ((la : Int) ≤ 40) = t := ⟨_, rfl⟩
    obtain ⟨t2, e2⟩ : ∃ t, decide ((lb : Int) ≤ 40) = t := ⟨_, rfl⟩
    obtain ⟨t3, e3⟩ : ∃ t, decide ((lc : Int) ≤ 40) = t := ⟨_, rfl⟩
    have H1 := Lib.hid e1
    have H2 := Lib.hid e2
    have H3 := Lib.hid e3
    have HG : Hid (¬ (t1 = true ∧ t2 = true ∧ t3 = true)) := by
      show ¬ _
      rw [← e1, ← e2, ← e3]
      simp only [decide_eq_true_eq]
      omega
    clear e1 e2 e3 g1 ha hb hc ha1 hb1 hc1
    obtain ⟨W, hW, x0, x1, x2, hB⟩ := box2 w (.bool sa) (.slice A la ca) (.bool sb) (.slice B' lb cb) (.bool sc) (.slice C' lc cc)
    have HX := Lib.hid x0
    have HY := Lib.hid x1
    have HZ := Lib.hid x2
    have Bz := Below.refl W.heap.size W
    clear x0 x1 x2
    cases t1 <;> cases t2 <;> cases t3
    case true.true.true => exact absurd ⟨rfl, rfl, rfl⟩ HG.out
    all_goals
      clear HG
      go_enter Try.func3, Try.ntmps3
      go_wp2_with fail
      rw [← hW]
      clear hW
      repeat'
        first
        | (with_reducible refine (short_z 40 _ H1.out).mono ?_; rintro e wz ⟨rfl, bz⟩; replace Bz := below_trans Bz bz; clear bz H1; obtain ⟨⟨p1, p2⟩, _, _⟩ := (HX.out.below Bz).look; obtain ⟨⟨q1, q2⟩, _, _⟩ := (HY.out.below Bz).look; obtain ⟨⟨r1, r2⟩, _, _⟩ := (HZ.out.below Bz).look; go_wp2_with fail)
        | (with_reducible refine (short_z 40 _ H2.out).mono ?_; rintro e wz ⟨rfl, bz⟩; replace Bz := below_trans Bz bz; clear bz H2; obtain ⟨⟨p1, p2⟩, _, _⟩ := (HX.out.below Bz).look; obtain ⟨⟨q1, q2⟩, _, _⟩ := (HY.out.below Bz).look; obtain ⟨⟨r1, r2⟩, _, _⟩ := (HZ.out.below Bz).look; go_wp2_with fail)
        | (with_reducible refine (short_z 40 _ H3.out).mono ?_; rintro e wz ⟨rfl, bz⟩; replace Bz := below_trans Bz bz; clear bz H3; obtain ⟨⟨p1, p2⟩, _, _⟩ := (HX.out.below Bz).look; obtain ⟨⟨q1, q2⟩, _, _⟩ := (HY.out.below Bz).look; obtain ⟨⟨r1, r2⟩, _, _⟩ := (HZ.out.below Bz).look; go_wp2_with fail)
        | (with_reducible refine (awake2 _).mono ?_; rintro e wz ⟨rfl, bz⟩; replace Bz := below_trans Bz bz; clear bz; go_wp2_with fail)
      go_ret
      exact ⟨rfl, below_trans hB Bz⟩
end Go.Proofs.Ytjlfcnkndndgaaa
