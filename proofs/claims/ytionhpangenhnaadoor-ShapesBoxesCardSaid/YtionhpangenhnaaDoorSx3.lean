/-
  The examples of layer 10 come out as written. Written by wip/gen/sx3.py.
-/
import Derived.Test.YtionhpangenhnaaDoorSx2
namespace Go.Proofs.YtionhpangenhnaaDoor
open Go.RowKit Tw

def LysOk (w : World) (m : Nat) (L : List Ly) : Prop := ∀ y ∈ L, LyOk w m y
theorem LysOk.below {w w' : World} {m : Nat} {L : List Ly} (h : LysOk w m L) (hb : Below w.heap.size w w') : LysOk w' m L := fun y hy => (h y hy).below hb
theorem LysOk.k' {w w' : World} {m : Nat} {L : List Ly} (h : LysOk w m L) (hb : Below w.heap.size w w') : LysOk w' m L := h.below hb
theorem check_is {w : World} {m : Nat} {inp : Int} {lA : Option Addr} {ln lc : Nat} {L : List Ly} (h : Sl Ly.cs 13 w lA ln lc L) (hok : LysOk w m L) (hm : m ≤ 20000) (hln : ln ≤ 9223372036854775807) (hT : Hid (Tab w)) (z : Int) (hz : Hid (checkF inp L = z)) :
    Calls Tryd.prog 9 #[.agg #[.int .i64 inp, .slice lA ln lc]] w fun e w' => e = .returned (.int .i64 z) ∧ Below w.heap.size w w' := by
  rw [← hz.out]; exact checkT_q h (Lib.hid hok) hm hln hT
theorem sizes_is {w : World} {m : Nat} {inp : Int} {lA : Option Addr} {ln lc : Nat} {L : List Ly} (h : Sl Ly.cs 13 w lA ln lc L) (hok : LysOk w m L) (hm : m ≤ 20000) (hln : ln ≤ 9223372036854775807) (hT : Hid (Tab w)) (l : List Int) (hl : Hid (listF inp L = l)) :
    Calls Tryd.prog 10 #[.agg #[.int .i64 inp, .slice lA ln lc]] w (TellsL w l) := by
  rw [← hl.out]; exact sizesT_q h (Lib.hid hok) hm hln hT
theorem query_is {w : World} {m : Nat} {inp : Int} {lA : Option Addr} {ln lc : Nat} {L : List Ly} {q : Qy} (h : Sl Ly.cs 13 w lA ln lc L) (hok : LysOk w m L) (hm : m ≤ 20000) (hln : ln ≤ 9223372036854775807) (hq : QyOk w m q) (hT : Hid (Tab w)) (z : Int) (hz : Hid (queryF inp L q = z)) :
    Calls Tryd.prog 14 #[.agg #[.int .i64 inp, .slice lA ln lc], .agg #[.slice q.xA q.xn q.xc, .int .i64 q.label, .slice q.oA q.on q.oc, .slice q.hA q.hn q.hc, .int .u8 q.norm]] w fun e w' => e = .returned (.int .i64 z) ∧ Below w.heap.size w w' := by
  rw [← hz.out]; exact query_q h (Lib.hid hok) hm hln hq hT
def codeF : Except Int (List Int) → Int
  | .error k => k
  | .ok _ => 0
theorem check_of {inp : Int} {L : List Ly} {r : Except Int (List Int)} (h : sizesF inp L = r) : checkF inp L = codeF r := by subst h; unfold checkF codeF; cases sizesF inp L <;> rfl
theorem list_of {inp : Int} {L : List Ly} {l : List Int} (h : sizesF inp L = .ok l) : listF inp L = l := by unfold listF; rw [h]
theorem SmallP.sz {a : Int} {L : List Ly} (h : SmallP a L) : sizesF 2 L = if 0 ≤ a ∧ a < 2 then .ok [2, 1, 1] else .error 22 := h.2
theorem SmallP.one {L : List Ly} (h : SmallP 1 L) : sizesF 2 L = .ok [2, 1, 1] := h.sz.trans (if_pos (by omega))
theorem SmallP.two {L : List Ly} (h : SmallP 2 L) : sizesF 2 L = .error 22 := h.sz.trans (if_neg (by omega))
theorem small_is {w : World} (at_ : Int) (hT : Hid (Tab w)) : Calls Tryd.prog 15 #[.int .i64 at_] w fun e w' => ∃ A n c L, e = .returned (.agg #[.int .i64 2, .slice A n c]) ∧ Sl Ly.cs 13 w' A n c L ∧ n ≤ 20 ∧ LysOk w' 1 L ∧ Hid (SmallP at_ L) ∧ Below w.heap.size w w' :=
  (small_q at_ hT).mono fun _ _ ⟨A, n, c, L, h1, h2, h3, h4, h5, h6⟩ => ⟨A, n, c, L, h1, h2, h3, h4, Lib.hid h5, h6⟩
theorem picture_is {w : World} : Calls Tryd.prog 8 #[] w fun e w' => ∃ A n c L, e = .returned (.agg #[.int .i64 4, .slice A n c]) ∧ Sl Ly.cs 13 w' A n c L ∧ n ≤ 20 ∧ LysOk w' 1 L ∧ Hid (L.length = 1 ∧ sizesF 4 L = .ok [4, 9]) ∧ Below w.heap.size w w' :=
  (picture_q).mono fun _ _ ⟨A, n, c, L, h1, h2, h3, h4, h5, h6⟩ => ⟨A, n, c, L, h1, h2, h3, h4, Lib.hid h5, h6⟩
/-- What a query of the examples comes to. -/
def QyIs (q : Qy) (n : Nat) (a b : Rat) (label : Int) : Prop := q.label = label ∧ q.norm = 1 ∧ q.xn = n ∧ q.on = n ∧ q.hn = n ∧ q.X.length = n ∧ q.O.length = n ∧ q.H.length = n ∧ (∀ x ∈ q.X, x.ex = true) ∧ (∀ x ∈ q.O, x.ex = true ∧ x.q = a) ∧ (∀ x ∈ q.H, x.ex = true ∧ x.q = b)
theorem query_val {inp : Int} {L : List Ly} {l : List Int} {q : Qy} {n : Nat} {a b : Rat} {label : Int} (h : sizesF inp L = .ok l) (hq : QyIs q n a b label) (hn : (n : Int) = inp) (hn0 : 0 < n) :
    queryF inp L q = if 0 < cmpQ a b then 23 else if label < 0 then 24 else if l.getLastD 0 ≤ label then 24 else 0 := by
  obtain ⟨h1, h2, h3, h4, h5, h6, h7, h8, h9, h10, h11⟩ := hq
  have e1 : okQ inp q = true := by
    have a1 : q.X.all (fun x => x.ex) = true := List.all_eq_true.2 fun x hx => h9 x hx
    have a2 : q.O.all (fun x => x.ex) = true := List.all_eq_true.2 fun x hx => (h10 x hx).1
    have a3 : q.H.all (fun x => x.ex) = true := List.all_eq_true.2 fun x hx => (h11 x hx).1
    simp [okQ, okV, Qy.x, Qy.o, Qy.h, h3, h4, h5, hn, a1, a2, a3]
  unfold queryF
  rw [h]
  simp only
  rw [if_neg (by rw [e1]; simp), if_neg (by rw [h2]; simp), h1]
  by_cases hc : 0 < cmpQ a b
  · have : boxB q = false := by
      unfold boxB
      rw [List.all_eq_false]
      obtain ⟨x, hx⟩ : ∃ x, q.O[0]? = some x := ⟨q.O[0]'(by omega), List.getElem?_eq_getElem _⟩
      obtain ⟨y, hy⟩ : ∃ y, q.H[0]? = some y := ⟨q.H[0]'(by omega), List.getElem?_eq_getElem _⟩
      refine ⟨(x, y), List.mem_of_getElem? (i := 0) (List.getElem?_zip_eq_some.2 ⟨hx, hy⟩), ?_⟩
      unfold boxP
      simp only
      rw [(h10 x (List.mem_of_getElem? hx)).2, (h11 y (List.mem_of_getElem? hy)).2]
      simpa using hc
    rw [if_pos this, if_pos hc]
  · have : boxB q = true := by
      unfold boxB
      rw [List.all_eq_true]
      rintro ⟨x, y⟩ hp
      have hm := List.of_mem_zip hp
      unfold boxP
      simp only
      rw [(h10 x hm.1).2, (h11 y hm.2).2]
      simpa using hc
    rw [if_neg (by rw [this]; simp), if_neg hc]
theorem exQuery_is {w : World} (n : Nat) (z : Int) (hz : (n : Int) = z) (hn : n ≤ 1000) (lo hi label : Int) (hlo : -1000 ≤ lo ∧ lo ≤ 1000) (hhi : -1000 ≤ hi ∧ hi ≤ 1000) (hT : Hid (Tab w)) :
    Calls Tryd.prog 13 #[.int .i64 z, .int .i64 lo, .int .i64 hi, .int .i64 label] w fun e w' => ∃ q : Qy, e = .returned (.agg #[.slice q.xA q.xn q.xc, .int .i64 q.label, .slice q.oA q.on q.oc, .slice q.hA q.hn q.hc, .int .u8 q.norm]) ∧ QyOk w' 1 q ∧ Hid (QyIs q n (qof lo 1) (qof hi 1) label) ∧ Below w.heap.size w w' := by
  subst hz
  exact (exQuery_q n hn lo hi label hlo hhi hT).mono fun _ _ ⟨q, h1, h2, h3, h4, h5, h6, h7, h8, h9, h10, h11⟩ => ⟨q, h1, h2, Lib.hid ⟨h3, h4, h5, h6, h7, h2.x.1.1.trans h5, h2.o.1.1.trans h6, h2.h.1.1.trans h7, fun x hx => (h8 x hx).2.2, fun x hx => ⟨(h9 x hx).2.2, (h9 x hx).2.1⟩, fun x hx => ⟨(h10 x hx).2.2, (h10 x hx).2.1⟩⟩, h11⟩
set_option maxRecDepth 100000 in
set_option maxHeartbeats 4000000 in
theorem awake10_q {w : World} (hT : Hid (Tab w)) : Calls Tryd.prog 16 #[] w fun e w' => e = .returned (.bool true) ∧ Below w.heap.size w w' := by
  have hB := Below.refl w.heap.size w
  have Bz := Below.refl w.heap.size w
  go_enter Tryd.func16, Tryd.ntmps16
  go_wp2_with fail
  with_reducible refine (small_is 1 (Lib.hid (Tab.below hT.out (below_trans hB (below_trans (b := w) Bz (by go_grown)))))).mono ?_
  rintro e w1 ⟨A1, n1, c1, L1, rfl, hs1, hn1, hok1, hp1, b1⟩
  replace b1 := below_trans (a := w) (by go_grown) b1
  replace Bz := below_trans Bz b1
  clear b1
  go_upto_region 3 with (fail)
  obtain ⟨V1, hW, x0, hN⟩ := boxes1 w1 #[.int .i64 65, .slice A1 n1 c1] 30
  rw [← hW]
  clear hW
  obtain ⟨v0, hb0⟩ : ∃ b, b = w1.heap.size := ⟨_, rfl⟩
  rw [← hb0] at x0 ⊢
  have ow_0 : w.heap.size ≤ v0 := by have := hB.size; have := Bz.size; omega
  replace hok1 := hok1.below hN
  replace hs1 := hs1.below hN
  replace hB := below_trans (below_trans hB Bz) hN
  have HX0 := Lib.hid x0
  clear x0 hN Bz hb0
  have Bz := Below.refl V1.heap.size V1
  go_wp2_with fail
  with_reducible refine (small_is 1 (Lib.hid (Tab.below hT.out (below_trans hB (below_trans (b := V1) Bz (by go_grown)))))).mono ?_
  rintro e w2 ⟨A2, n2, c2, L2, rfl, hs2, hn2, hok2, hp2, b2⟩
  replace b2 := below_trans (a := V1) (by go_grown) b2
  replace hok1 := hok1.below b2
  replace hs1 := hs1.below b2
  replace Bz := below_trans Bz b2
  clear b2
  go_wp2_with fail
  with_reducible refine (check_is (Sl.below hs2 (by go_grown)) (LysOk.below hok2 (by go_grown)) (by omega) (by omega) (Lib.hid (Tab.below hT.out (below_trans hB (below_trans (b := w2) Bz (by go_grown))))) 0 (Lib.hid (check_of hp2.out.one))).mono ?_
  rintro e w3 ⟨rfl, b3⟩
  replace b3 := below_trans (a := w2) (by go_grown) b3
  replace hok1 := hok1.below b3
  replace hs1 := hs1.below b3
  replace Bz := below_trans Bz b3
  clear b3
  go_wp2_with fail
  with_reducible refine (small_is 1 (Lib.hid (Tab.below hT.out (below_trans hB (below_trans (b := w3) Bz (by go_grown)))))).mono ?_
  rintro e w4 ⟨A4, n4, c4, L4, rfl, hs4, hn4, hok4, hp4, b4⟩
  replace b4 := below_trans (a := w3) (by go_grown) b4
  replace hok1 := hok1.below b4
  replace hs1 := hs1.below b4
  replace Bz := below_trans Bz b4
  clear b4
  go_wp2_with fail
  with_reducible refine (sizes_is (Sl.below hs4 (by go_grown)) (LysOk.below hok4 (by go_grown)) (by omega) (by omega) (Lib.hid (Tab.below hT.out (below_trans hB (below_trans (b := w4) Bz (by go_grown))))) [2, 1, 1] (Lib.hid (list_of hp4.out.one))).mono ?_
  rintro e w5 ⟨A5, n5, c5, rfl, hl5, hc5, b5⟩
  replace b5 := below_trans (a := w4) (by go_grown) b5
  replace hok1 := hok1.below b5
  replace hs1 := hs1.below b5
  replace Bz := below_trans Bz b5
  clear b5
  go_wp2_with fail
  obtain ⟨V2, hW, x1, hN⟩ := boxes1 w5 #[.int .i64 2, .int .i64 1, .int .i64 1] 3
  rw [← hW]
  clear hW
  obtain ⟨v1, hb1⟩ : ∃ b, b = w5.heap.size := ⟨_, rfl⟩
  rw [← hb1] at x1 ⊢
  have o0_1 : v0 < v1 := by have := (HX0.out.below Bz).lt; omega
  have ow_1 : w.heap.size ≤ v1 := by have := hB.size; have := Bz.size; omega
  replace hl5 := hl5.below hN
  replace hok1 := hok1.below hN
  replace hs1 := hs1.below hN
  replace hB := below_trans (below_trans hB Bz) hN
  replace HX0 := Lib.hid ((HX0.out.below Bz).below hN)
  have HX1 := Lib.hid x1
  clear x1 hN Bz hb1
  have Bz := Below.refl V2.heap.size V2
  with_reducible refine (sameInts_q (Sl.below hl5 (by go_grown)) (ints_sl [2, 1, 1] (HX1.out.below Bz) 3 rfl) (by have := hl5.len; simp at this; omega) (by omega) true (Lib.hid rfl)).mono ?_
  rintro e w6 ⟨rfl, b6⟩
  replace b6 := below_trans (a := V2) (by go_grown) b6
  replace hok1 := hok1.below b6
  replace hs1 := hs1.below b6
  replace Bz := below_trans Bz b6
  clear b6
  go_wp2_with fail
  with_reducible refine (small_is 2 (Lib.hid (Tab.below hT.out (below_trans hB (below_trans (b := w6) Bz (by go_grown)))))).mono ?_
  rintro e w7 ⟨A7, n7, c7, L7, rfl, hs7, hn7, hok7, hp7, b7⟩
  replace b7 := below_trans (a := w6) (by go_grown) b7
  replace hok1 := hok1.below b7
  replace hs1 := hs1.below b7
  replace Bz := below_trans Bz b7
  clear b7
  go_wp2_with fail
  with_reducible refine (check_is (Sl.below hs7 (by go_grown)) (LysOk.below hok7 (by go_grown)) (by omega) (by omega) (Lib.hid (Tab.below hT.out (below_trans hB (below_trans (b := w7) Bz (by go_grown))))) 22 (Lib.hid (check_of hp7.out.two))).mono ?_
  rintro e w8 ⟨rfl, b8⟩
  replace b8 := below_trans (a := w7) (by go_grown) b8
  replace hok1 := hok1.below b8
  replace hs1 := hs1.below b8
  replace Bz := below_trans Bz b8
  clear b8
  have p0_0 := (HX0.out.below Bz).cell 0 (.int .i64 65) rfl
  have p0_1 := (HX0.out.below Bz).cell 1 (.slice A1 n1 c1) rfl
  go_wp2_with fail
  with_reducible refine (check_is (Sl.below hs1 (by go_grown)) (LysOk.below hok1 (by go_grown)) (by omega) (by omega) (Lib.hid (Tab.below hT.out (below_trans hB (below_trans (b := w8) Bz (by go_grown))))) 25 (Lib.hid (check_of (r := .error 25) rfl))).mono ?_
  rintro e w9 ⟨rfl, b9⟩
  replace b9 := below_trans (a := w8) (by go_grown) b9
  replace Bz := below_trans Bz b9
  clear b9
  clear p0_0 p0_1
  go_wp2_with fail
  with_reducible refine (picture_is).mono ?_
  rintro e w10 ⟨A10, n10, c10, L10, rfl, hs10, hn10, hok10, hp10, b10⟩
  replace b10 := below_trans (a := w9) (by go_grown) b10
  replace Bz := below_trans Bz b10
  clear b10
  go_wp2_with fail
  with_reducible refine (sizes_is (Sl.below hs10 (by go_grown)) (LysOk.below hok10 (by go_grown)) (by omega) (by omega) (Lib.hid (Tab.below hT.out (below_trans hB (below_trans (b := w10) Bz (by go_grown))))) [4, 9] (Lib.hid (list_of hp10.out.2))).mono ?_
  rintro e w11 ⟨A11, n11, c11, rfl, hl11, hc11, b11⟩
  replace b11 := below_trans (a := w10) (by go_grown) b11
  replace Bz := below_trans Bz b11
  clear b11
  go_wp2_with fail
  obtain ⟨V3, hW, x2, hN⟩ := boxes1 w11 #[.int .i64 4, .int .i64 9] 3
  rw [← hW]
  clear hW
  obtain ⟨v2, hb2⟩ : ∃ b, b = w11.heap.size := ⟨_, rfl⟩
  rw [← hb2] at x2 ⊢
  have o0_2 : v0 < v2 := by have := (HX0.out.below Bz).lt; omega
  have o1_2 : v1 < v2 := by have := (HX1.out.below Bz).lt; omega
  have ow_2 : w.heap.size ≤ v2 := by have := hB.size; have := Bz.size; omega
  replace hl11 := hl11.below hN
  replace hB := below_trans (below_trans hB Bz) hN
  replace HX0 := Lib.hid ((HX0.out.below Bz).below hN)
  replace HX1 := Lib.hid ((HX1.out.below Bz).below hN)
  have HX2 := Lib.hid x2
  clear x2 hN Bz hb2
  have Bz := Below.refl V3.heap.size V3
  with_reducible refine (sameInts_q (Sl.below hl11 (by go_grown)) (ints_sl [4, 9] (HX2.out.below Bz) 2 rfl) (by have := hl11.len; simp at this; omega) (by omega) true (Lib.hid rfl)).mono ?_
  rintro e w12 ⟨rfl, b12⟩
  replace b12 := below_trans (a := V3) (by go_grown) b12
  replace Bz := below_trans Bz b12
  clear b12
  go_wp2_with fail
  with_reducible refine (small_is 1 (Lib.hid (Tab.below hT.out (below_trans hB (below_trans (b := w12) Bz (by go_grown)))))).mono ?_
  rintro e w13 ⟨A13, n13, c13, L13, rfl, hs13, hn13, hok13, hp13, b13⟩
  replace b13 := below_trans (a := w12) (by go_grown) b13
  replace Bz := below_trans Bz b13
  clear b13
  go_wp2_with fail
  with_reducible refine (exQuery_is 2 2 rfl (by omega) 1 0 0 (by omega) (by omega) (Lib.hid (Tab.below hT.out (below_trans hB (below_trans (b := w13) Bz (by go_grown)))))).mono ?_
  rintro e w14 ⟨q14, rfl, hq14, hi14, b14⟩
  replace b14 := below_trans (a := w13) (by go_grown) b14
  replace hok13 := hok13.below b14
  replace hs13 := hs13.below b14
  replace Bz := below_trans Bz b14
  clear b14
  go_wp2_with fail
  with_reducible refine (query_is (Sl.below hs13 (by go_grown)) (LysOk.below hok13 (by go_grown)) (by omega) (by omega) (QyOk.below hq14 (by go_grown)) (Lib.hid (Tab.below hT.out (below_trans hB (below_trans (b := w14) Bz (by go_grown))))) 23 (Lib.hid ((query_val hp13.out.one hi14.out rfl (by omega)).trans (by decide)))).mono ?_
  rintro e w15 ⟨rfl, b15⟩
  replace b15 := below_trans (a := w14) (by go_grown) b15
  replace Bz := below_trans Bz b15
  clear b15
  go_wp2_with fail
  with_reducible refine (small_is 1 (Lib.hid (Tab.below hT.out (below_trans hB (below_trans (b := w15) Bz (by go_grown)))))).mono ?_
  rintro e w16 ⟨A16, n16, c16, L16, rfl, hs16, hn16, hok16, hp16, b16⟩
  replace b16 := below_trans (a := w15) (by go_grown) b16
  replace Bz := below_trans Bz b16
  clear b16
  go_wp2_with fail
  with_reducible refine (exQuery_is 2 2 rfl (by omega) 0 1 1 (by omega) (by omega) (Lib.hid (Tab.below hT.out (below_trans hB (below_trans (b := w16) Bz (by go_grown)))))).mono ?_
  rintro e w17 ⟨q17, rfl, hq17, hi17, b17⟩
  replace b17 := below_trans (a := w16) (by go_grown) b17
  replace hok16 := hok16.below b17
  replace hs16 := hs16.below b17
  replace Bz := below_trans Bz b17
  clear b17
  go_wp2_with fail
  with_reducible refine (query_is (Sl.below hs16 (by go_grown)) (LysOk.below hok16 (by go_grown)) (by omega) (by omega) (QyOk.below hq17 (by go_grown)) (Lib.hid (Tab.below hT.out (below_trans hB (below_trans (b := w17) Bz (by go_grown))))) 24 (Lib.hid ((query_val hp16.out.one hi17.out rfl (by omega)).trans (by decide)))).mono ?_
  rintro e w18 ⟨rfl, b18⟩
  replace b18 := below_trans (a := w17) (by go_grown) b18
  replace Bz := below_trans Bz b18
  clear b18
  go_wp2_with fail
  with_reducible refine (small_is 1 (Lib.hid (Tab.below hT.out (below_trans hB (below_trans (b := w18) Bz (by go_grown)))))).mono ?_
  rintro e w19 ⟨A19, n19, c19, L19, rfl, hs19, hn19, hok19, hp19, b19⟩
  replace b19 := below_trans (a := w18) (by go_grown) b19
  replace Bz := below_trans Bz b19
  clear b19
  go_wp2_with fail
  with_reducible refine (exQuery_is 2 2 rfl (by omega) 0 1 0 (by omega) (by omega) (Lib.hid (Tab.below hT.out (below_trans hB (below_trans (b := w19) Bz (by go_grown)))))).mono ?_
  rintro e w20 ⟨q20, rfl, hq20, hi20, b20⟩
  replace b20 := below_trans (a := w19) (by go_grown) b20
  replace hok19 := hok19.below b20
  replace hs19 := hs19.below b20
  replace Bz := below_trans Bz b20
  clear b20
  go_wp2_with fail
  with_reducible refine (query_is (Sl.below hs19 (by go_grown)) (LysOk.below hok19 (by go_grown)) (by omega) (by omega) (QyOk.below hq20 (by go_grown)) (Lib.hid (Tab.below hT.out (below_trans hB (below_trans (b := w20) Bz (by go_grown))))) 0 (Lib.hid ((query_val hp19.out.one hi20.out rfl (by omega)).trans (by decide)))).mono ?_
  rintro e w21 ⟨rfl, b21⟩
  replace b21 := below_trans (a := w20) (by go_grown) b21
  replace Bz := below_trans Bz b21
  clear b21
  go_wp2_with fail
  go_ret
  have hF := below_trans (c := w21) hB Bz
  exact ⟨rfl, below_trans hF (by go_grown)⟩
end Go.Proofs.YtionhpangenhnaaDoor
