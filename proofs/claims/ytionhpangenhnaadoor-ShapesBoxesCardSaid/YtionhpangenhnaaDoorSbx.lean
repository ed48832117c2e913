/-
  ShapesBoxes: for any network and query that came in, one that may be has its box, its label and its numbers as they should; the law answers true. No condition. Written by wip/gen/sbx.py.
-/
import Derived.Test.YtionhpangenhnaaDoorSb0
import Derived.Test.YtionhpangenhnaaDoorSx3
import Derived.Test.YtionhpangenhnaaDoorSw
import Derived.Test.YtionhpangenhnaaDoorNtIn
namespace Go.Proofs.YtionhpangenhnaaDoor
open Go.RowKit Tw

theorem sl_el {w : World} {b off n c i : Nat} {L : List Int} {x : Int} (h : Sl ics 1 w (some ⟨b, off, none⟩) n c L) (hx : L[i]? = some x) (hi : i < n) : w.cell? ⟨b, off + i, none⟩ = some (.int .i64 x) := by
  obtain ⟨b', off', e, hel⟩ := h.at ics_len (by omega) (by omega)
  cases e
  have := hel i x hx 0 (.int .i64 x) rfl
  simpa using this
/-- A query that is looked at. -/
def smallQy (units digits : Int) (q : Qy) : Bool := shortFrs units digits q.xn q.X && (shortFrs units digits q.on q.O && shortFrs units digits q.hn q.H)
/-- The three slices of a query that came in. -/
structure QyB (w : World) (q : Qy) : Prop where
  x : Sl Fr.cs 4 w q.xA q.xn q.xc q.X
  o : Sl Fr.cs 4 w q.oA q.on q.oc q.O
  h : Sl Fr.cs 4 w q.hA q.hn q.hc q.H
  xi : ∀ x ∈ q.X, FrIn w x
  oi : ∀ x ∈ q.O, FrIn w x
  hi : ∀ x ∈ q.H, FrIn w x
  lens : q.xn ≤ 9223372036854775807 ∧ q.on ≤ 9223372036854775807 ∧ q.hn ≤ 9223372036854775807
theorem QyB.below {w w' : World} {q : Qy} (h : QyB w q) (hb : Below w.heap.size w w') : QyB w' q :=
  ⟨h.x.below hb, h.o.below hb, h.h.below hb, fun x hx => (h.xi x hx).below hb, fun x hx => (h.oi x hx).below hb, fun x hx => (h.hi x hx).below hb, h.lens⟩
theorem QyB.ok {w : World} {q : Qy} {units digits : Int} {m : Nat} (h : QyB w q) (hs : smallQy units digits q = true) (hd : digits ≤ m) (hu : units ≤ 100000) : QyOk w m q := by
  unfold smallQy at hs
  simp only [Bool.and_eq_true] at hs
  obtain ⟨h1, h2, h3⟩ := hs
  have l : ∀ {n : Nat} {L : List Fr}, shortFrs units digits n L = true → n ≤ 100000 := fun h => by
    unfold shortFrs at h
    simp only [Bool.and_eq_true, decide_eq_true_eq] at h
    omega
  exact ⟨⟨h.x, FrIn.okAll h.xi h1 hd, l h1⟩, ⟨h.o, FrIn.okAll h.oi h2 hd, l h2⟩, ⟨h.h, FrIn.okAll h.hi h3 hd, l h3⟩⟩
set_option maxRecDepth 100000 in
set_option maxHeartbeats 4000000 in
theorem smallQuery_q {w : World} {q : Qy} (HQ : Hid (QyB w q)) (units digits : Int) (r : Bool) (hr : Hid (smallQy units digits q = r)) :
    Calls Tryd.prog 19 #[.agg #[.slice q.xA q.xn q.xc, .int .i64 q.label, .slice q.oA q.on q.oc, .slice q.hA q.hn q.hc, .int .u8 q.norm], .int .i64 units, .int .i64 digits] w fun e w' => e = .returned (.bool r) ∧ Below w.heap.size w w' := by
  cases h1 : shortFrs units digits q.xn q.X
  · obtain rfl : r = false := by rw [← hr.out]; unfold smallQy; rw [h1]; rfl
    have H1 := Lib.hid h1
    clear h1 hr
    obtain ⟨W, hW, x0, hB⟩ := boxes1 w #[.slice q.xA q.xn q.xc, .int .i64 q.label, .slice q.oA q.on q.oc, .slice q.hA q.hn q.hc, .int .u8 q.norm] 47
    have HX0 := Lib.hid x0
    clear x0
    have Bz := Below.refl W.heap.size W
    have p0_0 := (HX0.out.below Bz).cell 0 (.slice q.xA q.xn q.xc) rfl
    go_enter Tryd.func19, Tryd.ntmps19
    go_wp2_with fail
    rw [← hW]
    clear hW
    go_wp2_with fail
    with_reducible refine (shortRats_q (HQ.out.x.below (below_trans hB (below_trans (b := W) Bz (by go_grown)))) (Lib.hid fun x hx => (HQ.out.xi x hx).len) HQ.out.lens.1 units digits false H1).mono ?_
    rintro e w1 ⟨rfl, b1⟩
    replace b1 := below_trans (a := W) (by go_grown) b1
    replace Bz := below_trans Bz b1
    clear b1
    clear p0_0
    go_wp2_with fail
    go_ret
    have hF := below_trans (c := w1) hB Bz
    exact ⟨rfl, below_trans hF (by go_grown)⟩
  · cases h2 : shortFrs units digits q.on q.O
    · obtain rfl : r = false := by rw [← hr.out]; unfold smallQy; rw [h1, h2]; rfl
      have H1 := Lib.hid h1
      have H2 := Lib.hid h2
      clear h1 h2 hr
      obtain ⟨W, hW, x0, hB⟩ := boxes1 w #[.slice q.xA q.xn q.xc, .int .i64 q.label, .slice q.oA q.on q.oc, .slice q.hA q.hn q.hc, .int .u8 q.norm] 47
      have HX0 := Lib.hid x0
      clear x0
      have Bz := Below.refl W.heap.size W
      have p0_0 := (HX0.out.below Bz).cell 0 (.slice q.xA q.xn q.xc) rfl
      go_enter Tryd.func19, Tryd.ntmps19
      go_wp2_with fail
      rw [← hW]
      clear hW
      go_wp2_with fail
      with_reducible refine (shortRats_q (HQ.out.x.below (below_trans hB (below_trans (b := W) Bz (by go_grown)))) (Lib.hid fun x hx => (HQ.out.xi x hx).len) HQ.out.lens.1 units digits true H1).mono ?_
      rintro e w1 ⟨rfl, b1⟩
      replace b1 := below_trans (a := W) (by go_grown) b1
      replace Bz := below_trans Bz b1
      clear b1
      clear p0_0
      have p0_2 := (HX0.out.below Bz).cell 2 (.slice q.oA q.on q.oc) rfl
      go_wp2_with fail
      with_reducible refine (shortRats_q (HQ.out.o.below (below_trans hB (below_trans (b := w1) Bz (by go_grown)))) (Lib.hid fun x hx => (HQ.out.oi x hx).len) HQ.out.lens.2.1 units digits false H2).mono ?_
      rintro e w2 ⟨rfl, b2⟩
      replace b2 := below_trans (a := w1) (by go_grown) b2
      replace Bz := below_trans Bz b2
      clear b2
      clear p0_2
      go_wp2_with fail
      go_ret
      have hF := below_trans (c := w2) hB Bz
      exact ⟨rfl, below_trans hF (by go_grown)⟩
    · cases h3 : shortFrs units digits q.hn q.H
      · obtain rfl : r = false := by rw [← hr.out]; unfold smallQy; rw [h1, h2, h3]; rfl
        have H1 := Lib.hid h1
        have H2 := Lib.hid h2
        have H3 := Lib.hid h3
        clear h1 h2 h3 hr
        obtain ⟨W, hW, x0, hB⟩ := boxes1 w #[.slice q.xA q.xn q.xc, .int .i64 q.label, .slice q.oA q.on q.oc, .slice q.hA q.hn q.hc, .int .u8 q.norm] 47
        have HX0 := Lib.hid x0
        clear x0
        have Bz := Below.refl W.heap.size W
        have p0_0 := (HX0.out.below Bz).cell 0 (.slice q.xA q.xn q.xc) rfl
        go_enter Tryd.func19, Tryd.ntmps19
        go_wp2_with fail
        rw [← hW]
        clear hW
        go_wp2_with fail
        with_reducible refine (shortRats_q (HQ.out.x.below (below_trans hB (below_trans (b := W) Bz (by go_grown)))) (Lib.hid fun x hx => (HQ.out.xi x hx).len) HQ.out.lens.1 units digits true H1).mono ?_
        rintro e w1 ⟨rfl, b1⟩
        replace b1 := below_trans (a := W) (by go_grown) b1
        replace Bz := below_trans Bz b1
        clear b1
        clear p0_0
        have p0_2 := (HX0.out.below Bz).cell 2 (.slice q.oA q.on q.oc) rfl
        go_wp2_with fail
        with_reducible refine (shortRats_q (HQ.out.o.below (below_trans hB (below_trans (b := w1) Bz (by go_grown)))) (Lib.hid fun x hx => (HQ.out.oi x hx).len) HQ.out.lens.2.1 units digits true H2).mono ?_
        rintro e w2 ⟨rfl, b2⟩
        replace b2 := below_trans (a := w1) (by go_grown) b2
        replace Bz := below_trans Bz b2
        clear b2
        clear p0_2
        have p0_3 := (HX0.out.below Bz).cell 3 (.slice q.hA q.hn q.hc) rfl
        go_wp2_with fail
        with_reducible refine (shortRats_q (HQ.out.h.below (below_trans hB (below_trans (b := w2) Bz (by go_grown)))) (Lib.hid fun x hx => (HQ.out.hi x hx).len) HQ.out.lens.2.2 units digits false H3).mono ?_
        rintro e w3 ⟨rfl, b3⟩
        replace b3 := below_trans (a := w2) (by go_grown) b3
        replace Bz := below_trans Bz b3
        clear b3
        clear p0_3
        go_wp2_with fail
        go_ret
        have hF := below_trans (c := w3) hB Bz
        exact ⟨rfl, below_trans hF (by go_grown)⟩
      · obtain rfl : r = true := by rw [← hr.out]; unfold smallQy; rw [h1, h2, h3]; rfl
        have H1 := Lib.hid h1
        have H2 := Lib.hid h2
        have H3 := Lib.hid h3
        clear h1 h2 h3 hr
        obtain ⟨W, hW, x0, hB⟩ := boxes1 w #[.slice q.xA q.xn q.xc, .int .i64 q.label, .slice q.oA q.on q.oc, .slice q.hA q.hn q.hc, .int .u8 q.norm] 47
        have HX0 := Lib.hid x0
        clear x0
        have Bz := Below.refl W.heap.size W
        have p0_0 := (HX0.out.below Bz).cell 0 (.slice q.xA q.xn q.xc) rfl
        go_enter Tryd.func19, Tryd.ntmps19
        go_wp2_with fail
        rw [← hW]
        clear hW
        go_wp2_with fail
        with_reducible refine (shortRats_q (HQ.out.x.below (below_trans hB (below_trans (b := W) Bz (by go_grown)))) (Lib.hid fun x hx => (HQ.out.xi x hx).len) HQ.out.lens.1 units digits true H1).mono ?_
        rintro e w1 ⟨rfl, b1⟩
        replace b1 := below_trans (a := W) (by go_grown) b1
        replace Bz := below_trans Bz b1
        clear b1
        clear p0_0
        have p0_2 := (HX0.out.below Bz).cell 2 (.slice q.oA q.on q.oc) rfl
        go_wp2_with fail
        with_reducible refine (shortRats_q (HQ.out.o.below (below_trans hB (below_trans (b := w1) Bz (by go_grown)))) (Lib.hid fun x hx => (HQ.out.oi x hx).len) HQ.out.lens.2.1 units digits true H2).mono ?_
        rintro e w2 ⟨rfl, b2⟩
        replace b2 := below_trans (a := w1) (by go_grown) b2
        replace Bz := below_trans Bz b2
        clear b2
        clear p0_2
        have p0_3 := (HX0.out.below Bz).cell 3 (.slice q.hA q.hn q.hc) rfl
        go_wp2_with fail
        with_reducible refine (shortRats_q (HQ.out.h.below (below_trans hB (below_trans (b := w2) Bz (by go_grown)))) (Lib.hid fun x hx => (HQ.out.hi x hx).len) HQ.out.lens.2.2 units digits true H3).mono ?_
        rintro e w3 ⟨rfl, b3⟩
        replace b3 := below_trans (a := w2) (by go_grown) b3
        replace Bz := below_trans Bz b3
        clear b3
        clear p0_3
        go_wp2_with fail
        go_ret
        have hF := below_trans (c := w3) hB Bz
        exact ⟨rfl, below_trans hF (by go_grown)⟩
/-- The same query, its box turned round; with another label. -/
def Qy.turn (q : Qy) : Qy := { q with oA := q.hA, on := q.hn, oc := q.hc, O := q.H, hA := q.oA, hn := q.on, hc := q.oc, H := q.O }
def Qy.lab (q : Qy) (l : Int) : Qy := { q with label := l }
theorem QyOk.turn {w : World} {m : Nat} {q : Qy} (h : QyOk w m q) : QyOk w m q.turn := ⟨h.x, h.h, h.o⟩
theorem QyOk.lab {w : World} {m : Nat} {q : Qy} (h : QyOk w m q) (l : Int) : QyOk w m (q.lab l) := ⟨h.x, h.o, h.h⟩
theorem cmp_le {p q : Rat} : (¬ 0 < cmpQ p q) ↔ p ≤ q := by unfold cmpQ; split <;> (try split) <;> grind
theorem zip_swap {L M : List Fr} (h : (L.zip M).all boxP = true) : (M.zip L).all boxP = (L.zip M).all sameP := by
  induction L generalizing M with
  | nil => cases M <;> rfl
  | cons x L ih =>
    cases M with
    | nil => rfl
    | cons y M =>
      rw [List.zip_cons_cons, List.all_cons, Bool.and_eq_true] at h
      rw [List.zip_cons_cons, List.zip_cons_cons, List.all_cons, List.all_cons, ih h.2]
      congr 1
      have h1 := cmp_le.1 (of_decide_eq_true h.1)
      unfold boxP sameP
      by_cases e : x.q = y.q
      · rw [decide_eq_true e, decide_eq_true (cmp_le.2 (by rw [e]; exact Rat.le_refl))]
      · rw [decide_eq_false e]
        exact decide_eq_false (fun h2 => e (Rat.le_antisymm h1 (cmp_le.1 h2)))
/-- What is known of a query that may be. -/
structure QyFits (inp : Int) (l : List Int) (q : Qy) : Prop where
  xn : (q.xn : Int) = inp
  on : (q.on : Int) = inp
  hn : (q.hn : Int) = inp
  oe : ∀ x ∈ q.O, x.ex = true
  he : ∀ x ∈ q.H, x.ex = true
  ge : 0 ≤ q.label
  lt : q.label < l.getLastD 0
  box : boxB q = true
theorem query_ok {inp : Int} {L : List Ly} {q : Qy} (h : queryF inp L q = 0) (h0 : ∀ k, sizesF inp L = .error k → k ≠ 0) : ∃ l, sizesF inp L = .ok l ∧ QyFits inp l q ∧ okQ inp q = true ∧ ¬ (q.norm ≠ 1 ∧ q.norm ≠ 2) := by
  unfold queryF at h
  cases hz : sizesF inp L with
  | error k => rw [hz] at h; exact absurd h (h0 k hz)
  | ok l =>
    rw [hz] at h
    simp only at h
    split at h
    · omega
    · rename_i h1
      split at h
      · omega
      · rename_i h2
        split at h
        · omega
        · rename_i h3
          split at h
          · omega
          · rename_i h4
            split at h
            · omega
            · rename_i h5
              have h1' : okQ inp q = true := by simpa using h1
              have hh := h1'
              unfold okQ okV at hh
              simp only [Bool.and_eq_true, decide_eq_true_eq, List.all_eq_true] at hh
              obtain ⟨⟨a1, a2⟩, ⟨b1, b2⟩, c1, c2⟩ := hh
              exact ⟨l, rfl, ⟨a1, b1, c1, b2, c2, by omega, by omega, by simpa using h3⟩, h1', h2⟩
theorem query_turn {inp : Int} {L : List Ly} {q : Qy} {l : List Int} (hz : sizesF inp L = .ok l) (hf : QyFits inp l q) (hk : okQ inp q = true) (hn : ¬ (q.norm ≠ 1 ∧ q.norm ≠ 2)) :
    queryF inp L q.turn = if (q.O.zip q.H).all sameP = true then 0 else 23 := by
  have h1 : okQ inp q.turn = true := by
    unfold okQ at hk ⊢
    simp only [Bool.and_eq_true] at hk ⊢
    exact ⟨hk.1, hk.2.2, hk.2.1⟩
  have h2 : boxB q.turn = (q.O.zip q.H).all sameP := zip_swap hf.box
  have h3 : ¬ (q.turn.norm ≠ 1 ∧ q.turn.norm ≠ 2) := hn
  have h4 : ¬ q.turn.label < 0 := by have := hf.ge; show ¬ q.label < 0; omega
  have h5 : ¬ l.getLastD 0 ≤ q.turn.label := by have := hf.lt; show ¬ l.getLastD 0 ≤ q.label; omega
  unfold queryF
  rw [hz]
  simp only
  rw [if_neg (by rw [h1]; simp), if_neg h3, h2]
  cases (q.O.zip q.H).all sameP
  · rfl
  · rw [if_neg (by simp), if_neg h4, if_neg h5]; rfl
theorem query_lab {inp : Int} {L : List Ly} {q : Qy} {l : List Int} (hz : sizesF inp L = .ok l) (hf : QyFits inp l q) (hk : okQ inp q = true) (hn : ¬ (q.norm ≠ 1 ∧ q.norm ≠ 2)) : queryF inp L (q.lab (l.getLastD 0)) = 24 := by
  have h1 : okQ inp (q.lab (l.getLastD 0)) = true := hk
  have h2 : boxB (q.lab (l.getLastD 0)) = true := hf.box
  have h3 : ¬ ((q.lab (l.getLastD 0)).norm ≠ 1 ∧ (q.lab (l.getLastD 0)).norm ≠ 2) := hn
  have h4 : ¬ (q.lab (l.getLastD 0)).label < 0 := by have := hf.ge; have := hf.lt; show ¬ l.getLastD 0 < 0; omega
  unfold queryF
  rw [hz]
  simp only
  rw [if_neg (by rw [h1]; simp), if_neg h3, if_neg (by rw [h2]; simp), if_neg h4, if_pos (show l.getLastD 0 ≤ (q.lab (l.getLastD 0)).label from Int.le_refl _)]
theorem QyOk.ones {w : World} {m : Nat} {q : Qy} {inp : Int} {l : List Int} (h : QyOk w m q) (hf : QyFits inp l q) (hm : m ≤ 800000) : Ones w q.O ∧ Ones w q.H :=
  ⟨fun x hx => ⟨((h.o.fr x hx).rn).1 (hf.oe x hx), by have := (h.o.fr x hx).r.len; omega⟩, fun x hx => ⟨((h.h.fr x hx).rn).1 (hf.he x hx), by have := (h.h.fr x hx).r.len; omega⟩⟩
theorem query_t {w : World} {m : Nat} {inp : Int} {lA : Option Addr} {ln lc : Nat} {L : List Ly} {q : Qy} (h : Sl Ly.cs 13 w lA ln lc L) (hok : LysOk w m L) (hm : m ≤ 20000) (hln : ln ≤ 9223372036854775807) (hq : QyOk w m q) (hT : Hid (Tab w)) (z : Int) (hz : Hid (queryF inp L q.turn = z)) :
    Calls Tryd.prog 14 #[.agg #[.int .i64 inp, .slice lA ln lc], .agg #[.slice q.xA q.xn q.xc, .int .i64 q.label, .slice q.hA q.hn q.hc, .slice q.oA q.on q.oc, .int .u8 q.norm]] w fun e w' => e = .returned (.int .i64 z) ∧ Below w.heap.size w w' :=
  query_is (q := q.turn) h hok hm hln (hq.turn) hT z hz
theorem query_l {w : World} {m : Nat} {inp : Int} {lA : Option Addr} {ln lc : Nat} {L : List Ly} {q : Qy} (x : Int) (h : Sl Ly.cs 13 w lA ln lc L) (hok : LysOk w m L) (hm : m ≤ 20000) (hln : ln ≤ 9223372036854775807) (hq : QyOk w m q) (hT : Hid (Tab w)) (z : Int) (hz : Hid (queryF inp L (q.lab x) = z)) :
    Calls Tryd.prog 14 #[.agg #[.int .i64 inp, .slice lA ln lc], .agg #[.slice q.xA q.xn q.xc, .int .i64 x, .slice q.oA q.on q.oc, .slice q.hA q.hn q.hc, .int .u8 q.norm]] w fun e w' => e = .returned (.int .i64 z) ∧ Below w.heap.size w w' :=
  query_is (q := (q.lab x)) h hok hm hln (hq.lab x) hT z hz
set_option maxRecDepth 100000 in
set_option maxHeartbeats 4000000 in
theorem boxes_net {w : World} {inp : Int} {lA : Option Addr} {ln lc : Nat} {L : List Ly} {q : Qy} (h : Sl Ly.cs 13 w lA ln lc L) (hln : ln ≤ 9223372036854775807) (hin : Hid (∀ y ∈ L, LyIn w y)) (_hq : Hid (QyB w q)) (HS : Hid (smallNet 20 100 10 ln L = false)) (hT : Hid (Tab w)) :
    Calls Tryd.prog 5 #[.agg #[.int .i64 inp, .slice lA ln lc], .agg #[.slice q.xA q.xn q.xc, .int .i64 q.label, .slice q.oA q.on q.oc, .slice q.hA q.hn q.hc, .int .u8 q.norm]] w fun e w' => e = .returned (.bool true) ∧ Below w.heap.size w w' := by
  obtain ⟨W, hW, x0, x1, hB⟩ := boxes2 w #[.int .i64 inp, .slice lA ln lc] 30 #[.slice q.xA q.xn q.xc, .int .i64 q.label, .slice q.oA q.on q.oc, .slice q.hA q.hn q.hc, .int .u8 q.norm] 47
  have HX0 := Lib.hid x0
  have HX1 := Lib.hid x1
  clear x0 x1
  have Bz := Below.refl W.heap.size W
  have p0_0 := (HX0.out.below Bz).cell 0 (.int .i64 inp) rfl
  have p0_1 := (HX0.out.below Bz).cell 1 (.slice lA ln lc) rfl
  go_enter Tryd.func5, Tryd.ntmps5
  go_wp2_with fail
  rw [← hW]
  clear hW
  go_wp2_with fail
  with_reducible refine (smallNet_q (h.below (below_trans hB (below_trans (b := W) Bz (by go_grown)))) (Lib.hid fun y hy => (hin.out y hy).below (below_trans hB (below_trans (b := W) Bz (by go_grown)))) hln 20 100 10 (by omega) false HS).mono ?_
  rintro e w1 ⟨rfl, b1⟩
  replace b1 := below_trans (a := W) (by go_grown) b1
  replace Bz := below_trans Bz b1
  clear b1
  clear p0_0 p0_1
  go_wp2_with fail
  with_reducible refine (awake10_q (Lib.hid (Tab.below hT.out (below_trans hB (below_trans (b := w1) Bz (by go_grown)))))).mono ?_
  rintro e w2 ⟨rfl, b2⟩
  replace b2 := below_trans (a := w1) (by go_grown) b2
  replace Bz := below_trans Bz b2
  clear b2
  go_wp2_with fail
  go_ret
  have hF := below_trans (c := w2) hB Bz
  exact ⟨rfl, below_trans hF (by go_grown)⟩
set_option maxRecDepth 100000 in
set_option maxHeartbeats 4000000 in
theorem boxes_qy {w : World} {inp : Int} {lA : Option Addr} {ln lc : Nat} {L : List Ly} {q : Qy} (h : Sl Ly.cs 13 w lA ln lc L) (hln : ln ≤ 9223372036854775807) (hin : Hid (∀ y ∈ L, LyIn w y)) (hq : Hid (QyB w q)) (HS : Hid (smallNet 20 100 10 ln L = true)) (HQ : Hid (smallQy 100 10 q = false)) (hT : Hid (Tab w)) :
    Calls Tryd.prog 5 #[.agg #[.int .i64 inp, .slice lA ln lc], .agg #[.slice q.xA q.xn q.xc, .int .i64 q.label, .slice q.oA q.on q.oc, .slice q.hA q.hn q.hc, .int .u8 q.norm]] w fun e w' => e = .returned (.bool true) ∧ Below w.heap.size w w' := by
  obtain ⟨W, hW, x0, x1, hB⟩ := boxes2 w #[.int .i64 inp, .slice lA ln lc] 30 #[.slice q.xA q.xn q.xc, .int .i64 q.label, .slice q.oA q.on q.oc, .slice q.hA q.hn q.hc, .int .u8 q.norm] 47
  have HX0 := Lib.hid x0
  have HX1 := Lib.hid x1
  clear x0 x1
  have Bz := Below.refl W.heap.size W
  have p0_0 := (HX0.out.below Bz).cell 0 (.int .i64 inp) rfl
  have p0_1 := (HX0.out.below Bz).cell 1 (.slice lA ln lc) rfl
  go_enter Tryd.func5, Tryd.ntmps5
  go_wp2_with fail
  rw [← hW]
  clear hW
  go_wp2_with fail
  with_reducible refine (smallNet_q (h.below (below_trans hB (below_trans (b := W) Bz (by go_grown)))) (Lib.hid fun y hy => (hin.out y hy).below (below_trans hB (below_trans (b := W) Bz (by go_grown)))) hln 20 100 10 (by omega) true HS).mono ?_
  rintro e w1 ⟨rfl, b1⟩
  replace b1 := below_trans (a := W) (by go_grown) b1
  replace Bz := below_trans Bz b1
  clear b1
  clear p0_0 p0_1
  have p1_0 := (HX1.out.below Bz).cell 0 (.slice q.xA q.xn q.xc) rfl
  have p1_1 := (HX1.out.below Bz).cell 1 (.int .i64 q.label) rfl
  have p1_2 := (HX1.out.below Bz).cell 2 (.slice q.oA q.on q.oc) rfl
  have p1_3 := (HX1.out.below Bz).cell 3 (.slice q.hA q.hn q.hc) rfl
  have p1_4 := (HX1.out.below Bz).cell 4 (.int .u8 q.norm) rfl
  go_wp2_with fail
  with_reducible refine (smallQuery_q (Lib.hid (hq.out.below (below_trans hB (below_trans (b := w1) Bz (by go_grown))))) 100 10 false HQ).mono ?_
  rintro e w2 ⟨rfl, b2⟩
  replace b2 := below_trans (a := w1) (by go_grown) b2
  replace Bz := below_trans Bz b2
  clear b2
  clear p1_0 p1_1 p1_2 p1_3 p1_4
  go_wp2_with fail
  with_reducible refine (awake10_q (Lib.hid (Tab.below hT.out (below_trans hB (below_trans (b := w2) Bz (by go_grown)))))).mono ?_
  rintro e w3 ⟨rfl, b3⟩
  replace b3 := below_trans (a := w2) (by go_grown) b3
  replace Bz := below_trans Bz b3
  clear b3
  go_wp2_with fail
  go_ret
  have hF := below_trans (c := w3) hB Bz
  exact ⟨rfl, below_trans hF (by go_grown)⟩
set_option maxRecDepth 100000 in
set_option maxHeartbeats 4000000 in
theorem boxes_no {w : World} {inp : Int} {lA : Option Addr} {ln lc : Nat} {L : List Ly} {q : Qy} (h : Sl Ly.cs 13 w lA ln lc L) (hln : ln ≤ 9223372036854775807) (hin : Hid (∀ y ∈ L, LyIn w y)) (hq : Hid (QyB w q)) {z : Int} (HS : Hid (smallNet 20 100 10 ln L = true)) (HQ : Hid (smallQy 100 10 q = true)) (hok : Hid (LysOk w 10 L)) (hqo : Hid (QyOk w 10 q)) (HZ : Hid (queryF inp L q = z)) (g1 : (z != 0) = true) (hT : Hid (Tab w)) :
    Calls Tryd.prog 5 #[.agg #[.int .i64 inp, .slice lA ln lc], .agg #[.slice q.xA q.xn q.xc, .int .i64 q.label, .slice q.oA q.on q.oc, .slice q.hA q.hn q.hc, .int .u8 q.norm]] w fun e w' => e = .returned (.bool true) ∧ Below w.heap.size w w' := by
  obtain ⟨W, hW, x0, x1, hB⟩ := boxes2 w #[.int .i64 inp, .slice lA ln lc] 30 #[.slice q.xA q.xn q.xc, .int .i64 q.label, .slice q.oA q.on q.oc, .slice q.hA q.hn q.hc, .int .u8 q.norm] 47
  have HX0 := Lib.hid x0
  have HX1 := Lib.hid x1
  clear x0 x1
  have Bz := Below.refl W.heap.size W
  have p0_0 := (HX0.out.below Bz).cell 0 (.int .i64 inp) rfl
  have p0_1 := (HX0.out.below Bz).cell 1 (.slice lA ln lc) rfl
  go_enter Tryd.func5, Tryd.ntmps5
  go_wp2_with fail
  rw [← hW]
  clear hW
  go_wp2_with fail
  with_reducible refine (smallNet_q (h.below (below_trans hB (below_trans (b := W) Bz (by go_grown)))) (Lib.hid fun y hy => (hin.out y hy).below (below_trans hB (below_trans (b := W) Bz (by go_grown)))) hln 20 100 10 (by omega) true HS).mono ?_
  rintro e w1 ⟨rfl, b1⟩
  replace b1 := below_trans (a := W) (by go_grown) b1
  replace Bz := below_trans Bz b1
  clear b1
  clear p0_0 p0_1
  have p1_0 := (HX1.out.below Bz).cell 0 (.slice q.xA q.xn q.xc) rfl
  have p1_1 := (HX1.out.below Bz).cell 1 (.int .i64 q.label) rfl
  have p1_2 := (HX1.out.below Bz).cell 2 (.slice q.oA q.on q.oc) rfl
  have p1_3 := (HX1.out.below Bz).cell 3 (.slice q.hA q.hn q.hc) rfl
  have p1_4 := (HX1.out.below Bz).cell 4 (.int .u8 q.norm) rfl
  go_wp2_with fail
  with_reducible refine (smallQuery_q (Lib.hid (hq.out.below (below_trans hB (below_trans (b := w1) Bz (by go_grown))))) 100 10 true HQ).mono ?_
  rintro e w2 ⟨rfl, b2⟩
  replace b2 := below_trans (a := w1) (by go_grown) b2
  replace Bz := below_trans Bz b2
  clear b2
  clear p1_0 p1_1 p1_2 p1_3 p1_4
  have p0_0 := (HX0.out.below Bz).cell 0 (.int .i64 inp) rfl
  have p0_1 := (HX0.out.below Bz).cell 1 (.slice lA ln lc) rfl
  have p1_0 := (HX1.out.below Bz).cell 0 (.slice q.xA q.xn q.xc) rfl
  have p1_1 := (HX1.out.below Bz).cell 1 (.int .i64 q.label) rfl
  have p1_2 := (HX1.out.below Bz).cell 2 (.slice q.oA q.on q.oc) rfl
  have p1_3 := (HX1.out.below Bz).cell 3 (.slice q.hA q.hn q.hc) rfl
  have p1_4 := (HX1.out.below Bz).cell 4 (.int .u8 q.norm) rfl
  go_wp2_with fail
  with_reducible refine (query_is (q := q) (h.below (below_trans hB (below_trans (b := w2) Bz (by go_grown)))) (hok.out.below (below_trans hB (below_trans (b := w2) Bz (by go_grown)))) (m := 10) (by omega) hln (hqo.out.below (below_trans hB (below_trans (b := w2) Bz (by go_grown)))) (Lib.hid (Tab.below hT.out (below_trans hB (below_trans (b := w2) Bz (by go_grown))))) z HZ).mono ?_
  rintro e w3 ⟨rfl, b3⟩
  replace b3 := below_trans (a := w2) (by go_grown) b3
  replace Bz := below_trans Bz b3
  clear b3
  clear p0_0 p0_1 p1_0 p1_1 p1_2 p1_3 p1_4
  go_wp2_with fail
  with_reducible refine (awake10_q (Lib.hid (Tab.below hT.out (below_trans hB (below_trans (b := w3) Bz (by go_grown)))))).mono ?_
  rintro e w4 ⟨rfl, b4⟩
  replace b4 := below_trans (a := w3) (by go_grown) b4
  replace Bz := below_trans Bz b4
  clear b4
  go_wp2_with fail
  go_ret
  have hF := below_trans (c := w4) hB Bz
  exact ⟨rfl, below_trans hF (by go_grown)⟩
/-- A part of a struct is stored over. -/
theorem st5_1_1 {w : World} {b : Nat} {t : TypeId} {u0 u1 u2 u3 u4 : Value} (v1 : Value) (h0 : Bx w b #[u0, u1, u2, u3, u4] t) (n1 : ∀ n, u1 ≠ .int .u64 n) :
    ∃ W, W = w.setCell ⟨b, 1, none⟩ v1 ∧ Bx W b #[u0, v1, u2, u3, u4] t ∧ K64 w W ∧ (∀ b' cs t', b' ≠ b → Bx w b' cs t' → Bx W b' cs t') ∧ (∀ B w0, B ≤ b → Below B w0 w → Below B w0 W) := by
  have h2 : Bx (w.setCell ⟨b, 1, none⟩ v1) b #[u0, v1, u2, u3, u4] t := h0.set 1 v1
  have k1 : K64 (w) (w.setCell ⟨b, 1, none⟩ v1) := K64.box h0 (i := 1) rfl n1 v1
  exact ⟨_, rfl, h2, k1, fun b' cs t' hb hx => (hx.far hb v1), fun B w0 hB hb => (hb.setCell hB v1)⟩
set_option maxRecDepth 100000 in
set_option maxHeartbeats 4000000 in
theorem boxes_pt {w : World} {inp : Int} {lA : Option Addr} {ln lc : Nat} {L : List Ly} {q : Qy} (h : Sl Ly.cs 13 w lA ln lc L) (hln : ln ≤ 9223372036854775807) (hin : Hid (∀ y ∈ L, LyIn w y)) (hq : Hid (QyB w q)) {l : List Int} {last : Int} (HS : Hid (smallNet 20 100 10 ln L = true)) (HQ : Hid (smallQy 100 10 q = true)) (hok : Hid (LysOk w 10 L)) (hqo : Hid (QyOk w 10 q)) (hon : Hid (Ones w q.O ∧ Ones w q.H)) (HZ : Hid (queryF inp L q = 0)) (HL : Hid (listF inp L = l)) (HLEN : Hid (l.length = ln + 1)) (HLAST : Hid (l[ln]? = some last)) (HZ2 : Hid (queryF inp L q.turn = 0)) (HZ3 : Hid (queryF inp L (q.lab last) = 24)) (HP : Hid (sameFrs q.O q.H = true)) (k1 : ((q.xn : Int) == inp) = true) (k2 : ((q.on : Int) == inp) = true) (k3 : 0 ≤ q.label) (k4 : q.label < last) (hlns : q.on ≤ 9223372036854775807 ∧ q.hn ≤ 9223372036854775807) (hl16 : ln ≤ 16) (hT : Hid (Tab w)) :
    Calls Tryd.prog 5 #[.agg #[.int .i64 inp, .slice lA ln lc], .agg #[.slice q.xA q.xn q.xc, .int .i64 q.label, .slice q.oA q.on q.oc, .slice q.hA q.hn q.hc, .int .u8 q.norm]] w fun e w' => e = .returned (.bool true) ∧ Below w.heap.size w w' := by
  have g2 : ((ln : Int) + 1 == 0) = false := by rw [beq_eq_false_iff_ne]; omega
  have w6 : IntKind.i64.wrap ((ln : Int) + 1 - 1) = (ln : Int) := by rw [IntWalk.i64_in _ (by omega)]; omega
  have w7 : IntKind.i64.wrap (ln : Int) = (ln : Int) := IntWalk.i64_in _ (by omega)
  have w8 : (0 : Int) ≤ (ln : Int) := by omega
  have w9 : (ln : Int) < (ln : Int) + 1 := by omega
  obtain ⟨W, hW, x0, x1, hB⟩ := boxes2 w #[.int .i64 inp, .slice lA ln lc] 30 #[.slice q.xA q.xn q.xc, .int .i64 q.label, .slice q.oA q.on q.oc, .slice q.hA q.hn q.hc, .int .u8 q.norm] 47
  have HX0 := Lib.hid x0
  have HX1 := Lib.hid x1
  clear x0 x1
  have Bz := Below.refl W.heap.size W
  have p0_0 := (HX0.out.below Bz).cell 0 (.int .i64 inp) rfl
  have p0_1 := (HX0.out.below Bz).cell 1 (.slice lA ln lc) rfl
  go_enter Tryd.func5, Tryd.ntmps5
  go_wp2_with fail
  rw [← hW]
  clear hW
  go_wp2_with fail
  with_reducible refine (smallNet_q (h.below (below_trans hB (below_trans (b := W) Bz (by go_grown)))) (Lib.hid fun y hy => (hin.out y hy).below (below_trans hB (below_trans (b := W) Bz (by go_grown)))) hln 20 100 10 (by omega) true HS).mono ?_
  rintro e w1 ⟨rfl, b1⟩
  replace b1 := below_trans (a := W) (by go_grown) b1
  replace Bz := below_trans Bz b1
  clear b1
  clear p0_0 p0_1
  have p1_0 := (HX1.out.below Bz).cell 0 (.slice q.xA q.xn q.xc) rfl
  have p1_1 := (HX1.out.below Bz).cell 1 (.int .i64 q.label) rfl
  have p1_2 := (HX1.out.below Bz).cell 2 (.slice q.oA q.on q.oc) rfl
  have p1_3 := (HX1.out.below Bz).cell 3 (.slice q.hA q.hn q.hc) rfl
  have p1_4 := (HX1.out.below Bz).cell 4 (.int .u8 q.norm) rfl
  go_wp2_with fail
  with_reducible refine (smallQuery_q (Lib.hid (hq.out.below (below_trans hB (below_trans (b := w1) Bz (by go_grown))))) 100 10 true HQ).mono ?_
  rintro e w2 ⟨rfl, b2⟩
  replace b2 := below_trans (a := w1) (by go_grown) b2
  replace Bz := below_trans Bz b2
  clear b2
  clear p1_0 p1_1 p1_2 p1_3 p1_4
  have p0_0 := (HX0.out.below Bz).cell 0 (.int .i64 inp) rfl
  have p0_1 := (HX0.out.below Bz).cell 1 (.slice lA ln lc) rfl
  have p1_0 := (HX1.out.below Bz).cell 0 (.slice q.xA q.xn q.xc) rfl
  have p1_1 := (HX1.out.below Bz).cell 1 (.int .i64 q.label) rfl
  have p1_2 := (HX1.out.below Bz).cell 2 (.slice q.oA q.on q.oc) rfl
  have p1_3 := (HX1.out.below Bz).cell 3 (.slice q.hA q.hn q.hc) rfl
  have p1_4 := (HX1.out.below Bz).cell 4 (.int .u8 q.norm) rfl
  go_wp2_with fail
  with_reducible refine (query_is (q := q) (h.below (below_trans hB (below_trans (b := w2) Bz (by go_grown)))) (hok.out.below (below_trans hB (below_trans (b := w2) Bz (by go_grown)))) (m := 10) (by omega) hln (hqo.out.below (below_trans hB (below_trans (b := w2) Bz (by go_grown)))) (Lib.hid (Tab.below hT.out (below_trans hB (below_trans (b := w2) Bz (by go_grown))))) 0 HZ).mono ?_
  rintro e w3 ⟨rfl, b3⟩
  replace b3 := below_trans (a := w2) (by go_grown) b3
  replace Bz := below_trans Bz b3
  clear b3
  clear p0_0 p0_1 p1_0 p1_1 p1_2 p1_3 p1_4
  have p0_0 := (HX0.out.below Bz).cell 0 (.int .i64 inp) rfl
  have p0_1 := (HX0.out.below Bz).cell 1 (.slice lA ln lc) rfl
  go_wp2_with fail
  with_reducible refine (sizes_is (h.below (below_trans hB (below_trans (b := w3) Bz (by go_grown)))) (hok.out.below (below_trans hB (below_trans (b := w3) Bz (by go_grown)))) (m := 10) (by omega) hln (Lib.hid (Tab.below hT.out (below_trans hB (below_trans (b := w3) Bz (by go_grown))))) l HL).mono ?_
  rintro e w4 ⟨A4, n4, c4, rfl, hl4, hc4, b4⟩
  obtain rfl : n4 = ln + 1 := hl4.len.symm.trans HLEN.out
  obtain ⟨ub, uo, rfl, _⟩ := hl4.at ics_len (by omega) (by omega)
  replace b4 := below_trans (a := w3) (by go_grown) b4
  replace Bz := below_trans Bz b4
  clear b4
  clear p0_0 p0_1
  have p1_0 := (HX1.out.below Bz).cell 0 (.slice q.xA q.xn q.xc) rfl
  have p1_1 := (HX1.out.below Bz).cell 1 (.int .i64 q.label) rfl
  have p1_2 := (HX1.out.below Bz).cell 2 (.slice q.oA q.on q.oc) rfl
  have p1_3 := (HX1.out.below Bz).cell 3 (.slice q.hA q.hn q.hc) rfl
  have p1_4 := (HX1.out.below Bz).cell 4 (.int .u8 q.norm) rfl
  have p50_0 := (sl_el hl4 HLAST.out (by omega))
  go_upto_region 8 with (fail)
  obtain ⟨V1, hW, x2, hN⟩ := boxes1 w4 #[.slice q.xA q.xn q.xc, .int .i64 q.label, .slice q.oA q.on q.oc, .slice q.hA q.hn q.hc, .int .u8 q.norm] 47
  rw [← hW]
  clear hW
  obtain ⟨v2, hb2⟩ : ∃ b, b = w4.heap.size := ⟨_, rfl⟩
  rw [← hb2] at x2 ⊢
  have o0_2 : w.heap.size < v2 := by have := (HX0.out.below Bz).lt; omega
  have o1_2 : w.heap.size + 1 < v2 := by have := (HX1.out.below Bz).lt; omega
  have ow_2 : w.heap.size ≤ v2 := by have := hB.size; have := Bz.size; omega
  replace hB := below_trans (below_trans hB Bz) hN
  replace HX0 := Lib.hid ((HX0.out.below Bz).below hN)
  replace HX1 := Lib.hid ((HX1.out.below Bz).below hN)
  have HX2 := Lib.hid x2
  clear x2 hN Bz hb2
  have Bz := Below.refl V1.heap.size V1
  clear p1_0 p1_1 p1_2 p1_3 p1_4 p50_0
  have p1_2 := (HX1.out.below Bz).cell 2 (.slice q.oA q.on q.oc) rfl
  have p1_3 := (HX1.out.below Bz).cell 3 (.slice q.hA q.hn q.hc) rfl
  have p2_2 := (HX2.out.below Bz).cell 2 (.slice q.oA q.on q.oc) rfl
  have p2_3 := (HX2.out.below Bz).cell 3 (.slice q.hA q.hn q.hc) rfl
  have f2_2 := (HX2.out.below Bz).frozen 2
  have f2_3 := (HX2.out.below Bz).frozen 3
  have y2 := (HX2.out.below Bz).lt
  go_wp2_with fail
  (try simp only [List.append_eq, List.cons_append, List.nil_append])
  refine wp_region_plan (.pure 0 (.take 1 (.pure 2 (.take 3 (.pure 4 (.only 5 (.pure 6 (.only 7 .done)))))))) [7] (fun w' => w'.cell? ⟨w.heap.size + 1, 2, none⟩ = some (.slice q.oA q.on q.oc) ∧ w'.cell? ⟨w.heap.size + 1, 3, none⟩ = some (.slice q.hA q.hn q.hc)) (by kernel_rfl) (by kernel_rfl) ⟨p1_2, p1_3⟩ ?_
  refine wpPlan_pure (o := ⟨some 38, _, _, _, _, _⟩) (v := ?_) rfl rfl (fun w' => ?_) ?_
  rotate_left
  · go_simp <;> with_reducible rfl
  try simp only [Act.put, List.setIfInBounds_toArray, List.set_cons_zero, List.set_cons_succ]
  refine wpPlan_take (o := ⟨some 39, _, _, _, _, _⟩) (v := ?_) rfl rfl (fun w' hS => ?_) ?_
  rotate_left
  · obtain ⟨p1_2, p1_3⟩ := hS; go_simp <;> with_reducible rfl
  try simp only [Act.put, List.setIfInBounds_toArray, List.set_cons_zero, List.set_cons_succ]
  refine wpPlan_pure (o := ⟨some 40, _, _, _, _, _⟩) (v := ?_) rfl rfl (fun w' => ?_) ?_
  rotate_left
  · go_simp <;> with_reducible rfl
  try simp only [Act.put, List.setIfInBounds_toArray, List.set_cons_zero, List.set_cons_succ]
  refine wpPlan_take (o := ⟨some 41, _, _, _, _, _⟩) (v := ?_) rfl rfl (fun w' hS => ?_) ?_
  rotate_left
  · obtain ⟨p1_2, p1_3⟩ := hS; go_simp <;> with_reducible rfl
  try simp only [Act.put, List.setIfInBounds_toArray, List.set_cons_zero, List.set_cons_succ]
  refine wpPlan_pure (o := ⟨some 42, _, _, _, _, _⟩) (v := ?_) rfl rfl (fun w' => ?_) ?_
  rotate_left
  · go_simp <;> with_reducible rfl
  try simp only [Act.put, List.setIfInBounds_toArray, List.set_cons_zero, List.set_cons_succ]
  refine wpPlan_call (o := ⟨none, _, _, _, _, _⟩) rfl rfl (fun K hK => ?_)
  go_simp
  refine hK.out _ _ ⟨(cell_off1 (by omega)).trans p1_2, (cell_off1 (by omega)).trans p1_3⟩ (fun _ => ?_)
  try simp only [Act.put, List.setIfInBounds_toArray, List.set_cons_zero, List.set_cons_succ]
  clear hK K
  refine wpPlan_pure (o := ⟨some 43, _, _, _, _, _⟩) (v := ?_) rfl rfl (fun w' => ?_) ?_
  rotate_left
  · go_simp <;> with_reducible rfl
  try simp only [Act.put, List.setIfInBounds_toArray, List.set_cons_zero, List.set_cons_succ]
  refine wpPlan_late (o := ⟨none, _, _, _, _, _⟩) rfl rfl (by decide) (fun K hK => ?_)
  go_simp
  refine hK.out _ _ ?_
  try simp only [Act.put, List.setIfInBounds_toArray, List.set_cons_zero, List.set_cons_succ]
  clear hK K
  refine wpPlan_done ?_
  obtain ⟨V2, hW, x, kk, far, bel⟩ := st5_2_1 (.slice q.hA q.hn q.hc) (HX2.out.below Bz) (fun _ e => by cases e)
  rw [← hW]
  clear hW
  replace hB := bel w.heap.size w (by omega) (below_trans hB Bz)
  replace HX0 := Lib.hid (far _ _ _ (by omega) (HX0.out.below Bz))
  replace HX1 := Lib.hid (far _ _ _ (by omega) (HX1.out.below Bz))
  replace HX2 := Lib.hid x
  clear x kk far bel Bz
  have Bz := Below.refl V2.heap.size V2
  obtain ⟨V3, hW, x, kk, far, bel⟩ := st5_3_1 (.slice q.oA q.on q.oc) (HX2.out.below Bz) (fun _ e => by cases e)
  rw [← hW]
  clear hW
  replace hB := bel w.heap.size w (by omega) (below_trans hB Bz)
  replace HX0 := Lib.hid (far _ _ _ (by omega) (HX0.out.below Bz))
  replace HX1 := Lib.hid (far _ _ _ (by omega) (HX1.out.below Bz))
  replace HX2 := Lib.hid x
  clear x kk far bel Bz
  have Bz := Below.refl V3.heap.size V3
  clear p1_2 p1_3 p2_2 p2_3 f2_2 f2_3 y2
  have p0_0 := (HX0.out.below Bz).cell 0 (.int .i64 inp) rfl
  have p0_1 := (HX0.out.below Bz).cell 1 (.slice lA ln lc) rfl
  have p2_0 := (HX2.out.below Bz).cell 0 (.slice q.xA q.xn q.xc) rfl
  have p2_1 := (HX2.out.below Bz).cell 1 (.int .i64 q.label) rfl
  have p2_2 := (HX2.out.below Bz).cell 2 (.slice q.hA q.hn q.hc) rfl
  have p2_3 := (HX2.out.below Bz).cell 3 (.slice q.oA q.on q.oc) rfl
  have p2_4 := (HX2.out.below Bz).cell 4 (.int .u8 q.norm) rfl
  go_wp2_with fail
  with_reducible refine (query_t (q := q) (h.below (below_trans hB (below_trans (b := V3) Bz (by go_grown)))) (hok.out.below (below_trans hB (below_trans (b := V3) Bz (by go_grown)))) (m := 10) (by omega) hln (hqo.out.below (below_trans hB (below_trans (b := V3) Bz (by go_grown)))) (Lib.hid (Tab.below hT.out (below_trans hB (below_trans (b := V3) Bz (by go_grown))))) 0 HZ2).mono ?_
  rintro e w5 ⟨rfl, b5⟩
  replace b5 := below_trans (a := V3) (by go_grown) b5
  replace Bz := below_trans Bz b5
  clear b5
  clear p0_0 p0_1 p2_0 p2_1 p2_2 p2_3 p2_4
  have p1_2 := (HX1.out.below Bz).cell 2 (.slice q.oA q.on q.oc) rfl
  have p1_3 := (HX1.out.below Bz).cell 3 (.slice q.hA q.hn q.hc) rfl
  go_wp2_with fail
  with_reducible refine (sameRats_rn (hq.out.o.below (below_trans hB (below_trans (b := w5) Bz (by go_grown)))) (hq.out.h.below (below_trans hB (below_trans (b := w5) Bz (by go_grown)))) (Lib.hid (hon.out.1.below (below_trans hB (below_trans (b := w5) Bz (by go_grown))))) (Lib.hid (hon.out.2.below (below_trans hB (below_trans (b := w5) Bz (by go_grown))))) (by omega) (by omega) true HP).mono ?_
  rintro e w6 ⟨rfl, b6⟩
  replace b6 := below_trans (a := w5) (by go_grown) b6
  replace Bz := below_trans Bz b6
  clear b6
  clear p1_2 p1_3
  have p1_0 := (HX1.out.below Bz).cell 0 (.slice q.xA q.xn q.xc) rfl
  have p1_1 := (HX1.out.below Bz).cell 1 (.int .i64 q.label) rfl
  have p1_2 := (HX1.out.below Bz).cell 2 (.slice q.oA q.on q.oc) rfl
  have p1_3 := (HX1.out.below Bz).cell 3 (.slice q.hA q.hn q.hc) rfl
  have p1_4 := (HX1.out.below Bz).cell 4 (.int .u8 q.norm) rfl
  go_upto_region 12 with (fail)
  obtain ⟨V4, hW, x3, hN⟩ := boxes1 w6 #[.slice q.xA q.xn q.xc, .int .i64 q.label, .slice q.oA q.on q.oc, .slice q.hA q.hn q.hc, .int .u8 q.norm] 47
  rw [← hW]
  clear hW
  obtain ⟨v3, hb3⟩ : ∃ b, b = w6.heap.size := ⟨_, rfl⟩
  rw [← hb3] at x3 ⊢
  have o0_3 : w.heap.size < v3 := by have := (HX0.out.below Bz).lt; omega
  have o1_3 : w.heap.size + 1 < v3 := by have := (HX1.out.below Bz).lt; omega
  have o2_3 : v2 < v3 := by have := (HX2.out.below Bz).lt; omega
  have ow_3 : w.heap.size ≤ v3 := by have := hB.size; have := Bz.size; omega
  replace hB := below_trans (below_trans hB Bz) hN
  replace HX0 := Lib.hid ((HX0.out.below Bz).below hN)
  replace HX1 := Lib.hid ((HX1.out.below Bz).below hN)
  replace HX2 := Lib.hid ((HX2.out.below Bz).below hN)
  have HX3 := Lib.hid x3
  clear x3 hN Bz hb3
  have Bz := Below.refl V4.heap.size V4
  clear p1_0 p1_1 p1_2 p1_3 p1_4
  have p3_1 := (HX3.out.below Bz).cell 1 (.int .i64 q.label) rfl
  have f3_1 := (HX3.out.below Bz).frozen 1
  have y3 := (HX3.out.below Bz).lt
  go_upto_region 13 with (fail)
  obtain ⟨V5, hW, x, kk, far, bel⟩ := st5_1_1 (.int .i64 last) (HX3.out.below Bz) (fun _ e => by cases e)
  rw [← hW]
  clear hW
  replace hB := bel w.heap.size w (by omega) (below_trans hB Bz)
  replace HX0 := Lib.hid (far _ _ _ (by omega) (HX0.out.below Bz))
  replace HX1 := Lib.hid (far _ _ _ (by omega) (HX1.out.below Bz))
  replace HX2 := Lib.hid (far _ _ _ (by omega) (HX2.out.below Bz))
  replace HX3 := Lib.hid x
  clear x kk far bel Bz
  have Bz := Below.refl V5.heap.size V5
  clear p3_1 f3_1 y3
  have p0_0 := (HX0.out.below Bz).cell 0 (.int .i64 inp) rfl
  have p0_1 := (HX0.out.below Bz).cell 1 (.slice lA ln lc) rfl
  have p1_0 := (HX1.out.below Bz).cell 0 (.slice q.xA q.xn q.xc) rfl
  have p1_1 := (HX1.out.below Bz).cell 1 (.int .i64 q.label) rfl
  have p1_2 := (HX1.out.below Bz).cell 2 (.slice q.oA q.on q.oc) rfl
  have p3_0 := (HX3.out.below Bz).cell 0 (.slice q.xA q.xn q.xc) rfl
  have p3_1 := (HX3.out.below Bz).cell 1 (.int .i64 last) rfl
  have p3_2 := (HX3.out.below Bz).cell 2 (.slice q.oA q.on q.oc) rfl
  have p3_3 := (HX3.out.below Bz).cell 3 (.slice q.hA q.hn q.hc) rfl
  have p3_4 := (HX3.out.below Bz).cell 4 (.int .u8 q.norm) rfl
  go_wp2_with fail
  with_reducible refine (query_l last (q := q) (h.below (below_trans hB (below_trans (b := V5) Bz (by go_grown)))) (hok.out.below (below_trans hB (below_trans (b := V5) Bz (by go_grown)))) (m := 10) (by omega) hln (hqo.out.below (below_trans hB (below_trans (b := V5) Bz (by go_grown)))) (Lib.hid (Tab.below hT.out (below_trans hB (below_trans (b := V5) Bz (by go_grown))))) 24 HZ3).mono ?_
  rintro e w7 ⟨rfl, b7⟩
  replace b7 := below_trans (a := V5) (by go_grown) b7
  replace Bz := below_trans Bz b7
  clear b7
  clear p0_0 p0_1 p1_0 p1_1 p1_2 p3_0 p3_1 p3_2 p3_3 p3_4
  go_wp2_with fail
  with_reducible refine (awake10_q (Lib.hid (Tab.below hT.out (below_trans hB (below_trans (b := w7) Bz (by go_grown)))))).mono ?_
  rintro e w8 ⟨rfl, b8⟩
  replace b8 := below_trans (a := w7) (by go_grown) b8
  replace Bz := below_trans Bz b8
  clear b8
  go_wp2_with fail
  go_ret
  have hF := below_trans (c := w8) hB Bz
  exact ⟨rfl, below_trans hF (by go_grown)⟩
set_option maxRecDepth 100000 in
set_option maxHeartbeats 4000000 in
theorem boxes_np {w : World} {inp : Int} {lA : Option Addr} {ln lc : Nat} {L : List Ly} {q : Qy} (h : Sl Ly.cs 13 w lA ln lc L) (hln : ln ≤ 9223372036854775807) (hin : Hid (∀ y ∈ L, LyIn w y)) (hq : Hid (QyB w q)) {l : List Int} {last : Int} (HS : Hid (smallNet 20 100 10 ln L = true)) (HQ : Hid (smallQy 100 10 q = true)) (hok : Hid (LysOk w 10 L)) (hqo : Hid (QyOk w 10 q)) (hon : Hid (Ones w q.O ∧ Ones w q.H)) (HZ : Hid (queryF inp L q = 0)) (HL : Hid (listF inp L = l)) (HLEN : Hid (l.length = ln + 1)) (HLAST : Hid (l[ln]? = some last)) (HZ2 : Hid (queryF inp L q.turn = 23)) (HZ3 : Hid (queryF inp L (q.lab last) = 24)) (HP : Hid (sameFrs q.O q.H = false)) (k1 : ((q.xn : Int) == inp) = true) (k2 : ((q.on : Int) == inp) = true) (k3 : 0 ≤ q.label) (k4 : q.label < last) (hlns : q.on ≤ 9223372036854775807 ∧ q.hn ≤ 9223372036854775807) (hl16 : ln ≤ 16) (hT : Hid (Tab w)) :
    Calls Tryd.prog 5 #[.agg #[.int .i64 inp, .slice lA ln lc], .agg #[.slice q.xA q.xn q.xc, .int .i64 q.label, .slice q.oA q.on q.oc, .slice q.hA q.hn q.hc, .int .u8 q.norm]] w fun e w' => e = .returned (.bool true) ∧ Below w.heap.size w w' := by
  have g2 : ((ln : Int) + 1 == 0) = false := by rw [beq_eq_false_iff_ne]; omega
  have w6 : IntKind.i64.wrap ((ln : Int) + 1 - 1) = (ln : Int) := by rw [IntWalk.i64_in _ (by omega)]; omega
  have w7 : IntKind.i64.wrap (ln : Int) = (ln : Int) := IntWalk.i64_in _ (by omega)
  have w8 : (0 : Int) ≤ (ln : Int) := by omega
  have w9 : (ln : Int) < (ln : Int) + 1 := by omega
  obtain ⟨W, hW, x0, x1, hB⟩ := boxes2 w #[.int .i64 inp, .slice lA ln lc] 30 #[.slice q.xA q.xn q.xc, .int .i64 q.label, .slice q.oA q.on q.oc, .slice q.hA q.hn q.hc, .int .u8 q.norm] 47
  have HX0 := Lib.hid x0
  have HX1 := Lib.hid x1
  clear x0 x1
  have Bz := Below.refl W.heap.size W
  have p0_0 := (HX0.out.below Bz).cell 0 (.int .i64 inp) rfl
  have p0_1 := (HX0.out.below Bz).cell 1 (.slice lA ln lc) rfl
  go_enter Tryd.func5, Tryd.ntmps5
  go_wp2_with fail
  rw [← hW]
  clear hW
  go_wp2_with fail
  with_reducible refine (smallNet_q (h.below (below_trans hB (below_trans (b := W) Bz (by go_grown)))) (Lib.hid fun y hy => (hin.out y hy).below (below_trans hB (below_trans (b := W) Bz (by go_grown)))) hln 20 100 10 (by omega) true HS).mono ?_
  rintro e w1 ⟨rfl, b1⟩
  replace b1 := below_trans (a := W) (by go_grown) b1
  replace Bz := below_trans Bz b1
  clear b1
  clear p0_0 p0_1
  have p1_0 := (HX1.out.below Bz).cell 0 (.slice q.xA q.xn q.xc) rfl
  have p1_1 := (HX1.out.below Bz).cell 1 (.int .i64 q.label) rfl
  have p1_2 := (HX1.out.below Bz).cell 2 (.slice q.oA q.on q.oc) rfl
  have p1_3 := (HX1.out.below Bz).cell 3 (.slice q.hA q.hn q.hc) rfl
  have p1_4 := (HX1.out.below Bz).cell 4 (.int .u8 q.norm) rfl
  go_wp2_with fail
  with_reducible refine (smallQuery_q (Lib.hid (hq.out.below (below_trans hB (below_trans (b := w1) Bz (by go_grown))))) 100 10 true HQ).mono ?_
  rintro e w2 ⟨rfl, b2⟩
  replace b2 := below_trans (a := w1) (by go_grown) b2
  replace Bz := below_trans Bz b2
  clear b2
  clear p1_0 p1_1 p1_2 p1_3 p1_4
  have p0_0 := (HX0.out.below Bz).cell 0 (.int .i64 inp) rfl
  have p0_1 := (HX0.out.below Bz).cell 1 (.slice lA ln lc) rfl
  have p1_0 := (HX1.out.below Bz).cell 0 (.slice q.xA q.xn q.xc) rfl
  have p1_1 := (HX1.out.below Bz).cell 1 (.int .i64 q.label) rfl
  have p1_2 := (HX1.out.below Bz).cell 2 (.slice q.oA q.on q.oc) rfl
  have p1_3 := (HX1.out.below Bz).cell 3 (.slice q.hA q.hn q.hc) rfl
  have p1_4 := (HX1.out.below Bz).cell 4 (.int .u8 q.norm) rfl
  go_wp2_with fail
  with_reducible refine (query_is (q := q) (h.below (below_trans hB (below_trans (b := w2) Bz (by go_grown)))) (hok.out.below (below_trans hB (below_trans (b := w2) Bz (by go_grown)))) (m := 10) (by omega) hln (hqo.out.below (below_trans hB (below_trans (b := w2) Bz (by go_grown)))) (Lib.hid (Tab.below hT.out (below_trans hB (below_trans (b := w2) Bz (by go_grown))))) 0 HZ).mono ?_
  rintro e w3 ⟨rfl, b3⟩
  replace b3 := below_trans (a := w2) (by go_grown) b3
  replace Bz := below_trans Bz b3
  clear b3
  clear p0_0 p0_1 p1_0 p1_1 p1_2 p1_3 p1_4
  have p0_0 := (HX0.out.below Bz).cell 0 (.int .i64 inp) rfl
  have p0_1 := (HX0.out.below Bz).cell 1 (.slice lA ln lc) rfl
  go_wp2_with fail
  with_reducible refine (sizes_is (h.below (below_trans hB (below_trans (b := w3) Bz (by go_grown)))) (hok.out.below (below_trans hB (below_trans (b := w3) Bz (by go_grown)))) (m := 10) (by omega) hln (Lib.hid (Tab.below hT.out (below_trans hB (below_trans (b := w3) Bz (by go_grown))))) l HL).mono ?_
  rintro e w4 ⟨A4, n4, c4, rfl, hl4, hc4, b4⟩
  obtain rfl : n4 = ln + 1 := hl4.len.symm.trans HLEN.out
  obtain ⟨ub, uo, rfl, _⟩ := hl4.at ics_len (by omega) (by omega)
  replace b4 := below_trans (a := w3) (by go_grown) b4
  replace Bz := below_trans Bz b4
  clear b4
  clear p0_0 p0_1
  have p1_0 := (HX1.out.below Bz).cell 0 (.slice q.xA q.xn q.xc) rfl
  have p1_1 := (HX1.out.below Bz).cell 1 (.int .i64 q.label) rfl
  have p1_2 := (HX1.out.below Bz).cell 2 (.slice q.oA q.on q.oc) rfl
  have p1_3 := (HX1.out.below Bz).cell 3 (.slice q.hA q.hn q.hc) rfl
  have p1_4 := (HX1.out.below Bz).cell 4 (.int .u8 q.norm) rfl
  have p50_0 := (sl_el hl4 HLAST.out (by omega))
  go_upto_region 8 with (fail)
  obtain ⟨V1, hW, x2, hN⟩ := boxes1 w4 #[.slice q.xA q.xn q.xc, .int .i64 q.label, .slice q.oA q.on q.oc, .slice q.hA q.hn q.hc, .int .u8 q.norm] 47
  rw [← hW]
  clear hW
  obtain ⟨v2, hb2⟩ : ∃ b, b = w4.heap.size := ⟨_, rfl⟩
  rw [← hb2] at x2 ⊢
  have o0_2 : w.heap.size < v2 := by have := (HX0.out.below Bz).lt; omega
  have o1_2 : w.heap.size + 1 < v2 := by have := (HX1.out.below Bz).lt; omega
  have ow_2 : w.heap.size ≤ v2 := by have := hB.size; have := Bz.size; omega
  replace hB := below_trans (below_trans hB Bz) hN
  replace HX0 := Lib.hid ((HX0.out.below Bz).below hN)
  replace HX1 := Lib.hid ((HX1.out.below Bz).below hN)
  have HX2 := Lib.hid x2
  clear x2 hN Bz hb2
  have Bz := Below.refl V1.heap.size V1
  clear p1_0 p1_1 p1_2 p1_3 p1_4 p50_0
  have p1_2 := (HX1.out.below Bz).cell 2 (.slice q.oA q.on q.oc) rfl
  have p1_3 := (HX1.out.below Bz).cell 3 (.slice q.hA q.hn q.hc) rfl
  have p2_2 := (HX2.out.below Bz).cell 2 (.slice q.oA q.on q.oc) rfl
  have p2_3 := (HX2.out.below Bz).cell 3 (.slice q.hA q.hn q.hc) rfl
  have f2_2 := (HX2.out.below Bz).frozen 2
  have f2_3 := (HX2.out.below Bz).frozen 3
  have y2 := (HX2.out.below Bz).lt
  go_wp2_with fail
  (try simp only [List.append_eq, List.cons_append, List.nil_append])
  refine wp_region_plan (.pure 0 (.take 1 (.pure 2 (.take 3 (.pure 4 (.only 5 (.pure 6 (.only 7 .done)))))))) [7] (fun w' => w'.cell? ⟨w.heap.size + 1, 2, none⟩ = some (.slice q.oA q.on q.oc) ∧ w'.cell? ⟨w.heap.size + 1, 3, none⟩ = some (.slice q.hA q.hn q.hc)) (by kernel_rfl) (by kernel_rfl) ⟨p1_2, p1_3⟩ ?_
  refine wpPlan_pure (o := ⟨some 38, _, _, _, _, _⟩) (v := ?_) rfl rfl (fun w' => ?_) ?_
  rotate_left
  · go_simp <;> with_reducible rfl
  try simp only [Act.put, List.setIfInBounds_toArray, List.set_cons_zero, List.set_cons_succ]
  refine wpPlan_take (o := ⟨some 39, _, _, _, _, _⟩) (v := ?_) rfl rfl (fun w' hS => ?_) ?_
  rotate_left
  · obtain ⟨p1_2, p1_3⟩ := hS; go_simp <;> with_reducible rfl
  try simp only [Act.put, List.setIfInBounds_toArray, List.set_cons_zero, List.set_cons_succ]
  refine wpPlan_pure (o := ⟨some 40, _, _, _, _, _⟩) (v := ?_) rfl rfl (fun w' => ?_) ?_
  rotate_left
  · go_simp <;> with_reducible rfl
  try simp only [Act.put, List.setIfInBounds_toArray, List.set_cons_zero, List.set_cons_succ]
  refine wpPlan_take (o := ⟨some 41, _, _, _, _, _⟩) (v := ?_) rfl rfl (fun w' hS => ?_) ?_
  rotate_left
  · obtain ⟨p1_2, p1_3⟩ := hS; go_simp <;> with_reducible rfl
  try simp only [Act.put, List.setIfInBounds_toArray, List.set_cons_zero, List.set_cons_succ]
  refine wpPlan_pure (o := ⟨some 42, _, _, _, _, _⟩) (v := ?_) rfl rfl (fun w' => ?_) ?_
  rotate_left
  · go_simp <;> with_reducible rfl
  try simp only [Act.put, List.setIfInBounds_toArray, List.set_cons_zero, List.set_cons_succ]
  refine wpPlan_call (o := ⟨none, _, _, _, _, _⟩) rfl rfl (fun K hK => ?_)
  go_simp
  refine hK.out _ _ ⟨(cell_off1 (by omega)).trans p1_2, (cell_off1 (by omega)).trans p1_3⟩ (fun _ => ?_)
  try simp only [Act.put, List.setIfInBounds_toArray, List.set_cons_zero, List.set_cons_succ]
  clear hK K
  refine wpPlan_pure (o := ⟨some 43, _, _, _, _, _⟩) (v := ?_) rfl rfl (fun w' => ?_) ?_
  rotate_left
  · go_simp <;> with_reducible rfl
  try simp only [Act.put, List.setIfInBounds_toArray, List.set_cons_zero, List.set_cons_succ]
  refine wpPlan_late (o := ⟨none, _, _, _, _, _⟩) rfl rfl (by decide) (fun K hK => ?_)
  go_simp
  refine hK.out _ _ ?_
  try simp only [Act.put, List.setIfInBounds_toArray, List.set_cons_zero, List.set_cons_succ]
  clear hK K
  refine wpPlan_done ?_
  obtain ⟨V2, hW, x, kk, far, bel⟩ := st5_2_1 (.slice q.hA q.hn q.hc) (HX2.out.below Bz) (fun _ e => by cases e)
  rw [← hW]
  clear hW
  replace hB := bel w.heap.size w (by omega) (below_trans hB Bz)
  replace HX0 := Lib.hid (far _ _ _ (by omega) (HX0.out.below Bz))
  replace HX1 := Lib.hid (far _ _ _ (by omega) (HX1.out.below Bz))
  replace HX2 := Lib.hid x
  clear x kk far bel Bz
  have Bz := Below.refl V2.heap.size V2
  obtain ⟨V3, hW, x, kk, far, bel⟩ := st5_3_1 (.slice q.oA q.on q.oc) (HX2.out.below Bz) (fun _ e => by cases e)
  rw [← hW]
  clear hW
  replace hB := bel w.heap.size w (by omega) (below_trans hB Bz)
  replace HX0 := Lib.hid (far _ _ _ (by omega) (HX0.out.below Bz))
  replace HX1 := Lib.hid (far _ _ _ (by omega) (HX1.out.below Bz))
  replace HX2 := Lib.hid x
  clear x kk far bel Bz
  have Bz := Below.refl V3.heap.size V3
  clear p1_2 p1_3 p2_2 p2_3 f2_2 f2_3 y2
  have p0_0 := (HX0.out.below Bz).cell 0 (.int .i64 inp) rfl
  have p0_1 := (HX0.out.below Bz).cell 1 (.slice lA ln lc) rfl
  have p2_0 := (HX2.out.below Bz).cell 0 (.slice q.xA q.xn q.xc) rfl
  have p2_1 := (HX2.out.below Bz).cell 1 (.int .i64 q.label) rfl
  have p2_2 := (HX2.out.below Bz).cell 2 (.slice q.hA q.hn q.hc) rfl
  have p2_3 := (HX2.out.below Bz).cell 3 (.slice q.oA q.on q.oc) rfl
  have p2_4 := (HX2.out.below Bz).cell 4 (.int .u8 q.norm) rfl
  go_wp2_with fail
  with_reducible refine (query_t (q := q) (h.below (below_trans hB (below_trans (b := V3) Bz (by go_grown)))) (hok.out.below (below_trans hB (below_trans (b := V3) Bz (by go_grown)))) (m := 10) (by omega) hln (hqo.out.below (below_trans hB (below_trans (b := V3) Bz (by go_grown)))) (Lib.hid (Tab.below hT.out (below_trans hB (below_trans (b := V3) Bz (by go_grown))))) 23 HZ2).mono ?_
  rintro e w5 ⟨rfl, b5⟩
  replace b5 := below_trans (a := V3) (by go_grown) b5
  replace Bz := below_trans Bz b5
  clear b5
  clear p0_0 p0_1 p2_0 p2_1 p2_2 p2_3 p2_4
  have p1_2 := (HX1.out.below Bz).cell 2 (.slice q.oA q.on q.oc) rfl
  have p1_3 := (HX1.out.below Bz).cell 3 (.slice q.hA q.hn q.hc) rfl
  go_wp2_with fail
  with_reducible refine (sameRats_rn (hq.out.o.below (below_trans hB (below_trans (b := w5) Bz (by go_grown)))) (hq.out.h.below (below_trans hB (below_trans (b := w5) Bz (by go_grown)))) (Lib.hid (hon.out.1.below (below_trans hB (below_trans (b := w5) Bz (by go_grown))))) (Lib.hid (hon.out.2.below (below_trans hB (below_trans (b := w5) Bz (by go_grown))))) (by omega) (by omega) false HP).mono ?_
  rintro e w6 ⟨rfl, b6⟩
  replace b6 := below_trans (a := w5) (by go_grown) b6
  replace Bz := below_trans Bz b6
  clear b6
  clear p1_2 p1_3
  have p1_0 := (HX1.out.below Bz).cell 0 (.slice q.xA q.xn q.xc) rfl
  have p1_1 := (HX1.out.below Bz).cell 1 (.int .i64 q.label) rfl
  have p1_2 := (HX1.out.below Bz).cell 2 (.slice q.oA q.on q.oc) rfl
  have p1_3 := (HX1.out.below Bz).cell 3 (.slice q.hA q.hn q.hc) rfl
  have p1_4 := (HX1.out.below Bz).cell 4 (.int .u8 q.norm) rfl
  go_upto_region 12 with (fail)
  obtain ⟨V4, hW, x3, hN⟩ := boxes1 w6 #[.slice q.xA q.xn q.xc, .int .i64 q.label, .slice q.oA q.on q.oc, .slice q.hA q.hn q.hc, .int .u8 q.norm] 47
  rw [← hW]
  clear hW
  obtain ⟨v3, hb3⟩ : ∃ b, b = w6.heap.size := ⟨_, rfl⟩
  rw [← hb3] at x3 ⊢
  have o0_3 : w.heap.size < v3 := by have := (HX0.out.below Bz).lt; omega
  have o1_3 : w.heap.size + 1 < v3 := by have := (HX1.out.below Bz).lt; omega
  have o2_3 : v2 < v3 := by have := (HX2.out.below Bz).lt; omega
  have ow_3 : w.heap.size ≤ v3 := by have := hB.size; have := Bz.size; omega
  replace hB := below_trans (below_trans hB Bz) hN
  replace HX0 := Lib.hid ((HX0.out.below Bz).below hN)
  replace HX1 := Lib.hid ((HX1.out.below Bz).below hN)
  replace HX2 := Lib.hid ((HX2.out.below Bz).below hN)
  have HX3 := Lib.hid x3
  clear x3 hN Bz hb3
  have Bz := Below.refl V4.heap.size V4
  clear p1_0 p1_1 p1_2 p1_3 p1_4
  have p3_1 := (HX3.out.below Bz).cell 1 (.int .i64 q.label) rfl
  have f3_1 := (HX3.out.below Bz).frozen 1
  have y3 := (HX3.out.below Bz).lt
  go_upto_region 13 with (fail)
  obtain ⟨V5, hW, x, kk, far, bel⟩ := st5_1_1 (.int .i64 last) (HX3.out.below Bz) (fun _ e => by cases e)
  rw [← hW]
  clear hW
  replace hB := bel w.heap.size w (by omega) (below_trans hB Bz)
  replace HX0 := Lib.hid (far _ _ _ (by omega) (HX0.out.below Bz))
  replace HX1 := Lib.hid (far _ _ _ (by omega) (HX1.out.below Bz))
  replace HX2 := Lib.hid (far _ _ _ (by omega) (HX2.out.below Bz))
  replace HX3 := Lib.hid x
  clear x kk far bel Bz
  have Bz := Below.refl V5.heap.size V5
  clear p3_1 f3_1 y3
  have p0_0 := (HX0.out.below Bz).cell 0 (.int .i64 inp) rfl
  have p0_1 := (HX0.out.below Bz).cell 1 (.slice lA ln lc) rfl
  have p1_0 := (HX1.out.below Bz).cell 0 (.slice q.xA q.xn q.xc) rfl
  have p1_1 := (HX1.out.below Bz).cell 1 (.int .i64 q.label) rfl
  have p1_2 := (HX1.out.below Bz).cell 2 (.slice q.oA q.on q.oc) rfl
  have p3_0 := (HX3.out.below Bz).cell 0 (.slice q.xA q.xn q.xc) rfl
  have p3_1 := (HX3.out.below Bz).cell 1 (.int .i64 last) rfl
  have p3_2 := (HX3.out.below Bz).cell 2 (.slice q.oA q.on q.oc) rfl
  have p3_3 := (HX3.out.below Bz).cell 3 (.slice q.hA q.hn q.hc) rfl
  have p3_4 := (HX3.out.below Bz).cell 4 (.int .u8 q.norm) rfl
  go_wp2_with fail
  with_reducible refine (query_l last (q := q) (h.below (below_trans hB (below_trans (b := V5) Bz (by go_grown)))) (hok.out.below (below_trans hB (below_trans (b := V5) Bz (by go_grown)))) (m := 10) (by omega) hln (hqo.out.below (below_trans hB (below_trans (b := V5) Bz (by go_grown)))) (Lib.hid (Tab.below hT.out (below_trans hB (below_trans (b := V5) Bz (by go_grown))))) 24 HZ3).mono ?_
  rintro e w7 ⟨rfl, b7⟩
  replace b7 := below_trans (a := V5) (by go_grown) b7
  replace Bz := below_trans Bz b7
  clear b7
  clear p0_0 p0_1 p1_0 p1_1 p1_2 p3_0 p3_1 p3_2 p3_3 p3_4
  go_wp2_with fail
  with_reducible refine (awake10_q (Lib.hid (Tab.below hT.out (below_trans hB (below_trans (b := w7) Bz (by go_grown)))))).mono ?_
  rintro e w8 ⟨rfl, b8⟩
  replace b8 := below_trans (a := w7) (by go_grown) b8
  replace Bz := below_trans Bz b8
  clear b8
  go_wp2_with fail
  go_ret
  have hF := below_trans (c := w8) hB Bz
  exact ⟨rfl, below_trans hF (by go_grown)⟩
theorem boxes_q {w : World} {inp : Int} {lA : Option Addr} {ln lc : Nat} {L : List Ly} {q : Qy} (h : Sl Ly.cs 13 w lA ln lc L) (hln : ln ≤ 9223372036854775807) (hin : Hid (∀ y ∈ L, LyIn w y)) (hq : Hid (QyB w q)) (hT : Hid (Tab w)) :
    Calls Tryd.prog 5 #[.agg #[.int .i64 inp, .slice lA ln lc], .agg #[.slice q.xA q.xn q.xc, .int .i64 q.label, .slice q.oA q.on q.oc, .slice q.hA q.hn q.hc, .int .u8 q.norm]] w fun e w' => e = .returned (.bool true) ∧ Below w.heap.size w w' := by
  cases hs : smallNet 20 100 10 ln L
  · exact boxes_net h hln hin hq (Lib.hid hs) hT
  · have ok := small_ok (m := 10) hin.out hs (by omega) (by omega)
    have hok : Hid (LysOk w 10 L) := Lib.hid ok.2
    cases hy : smallQy 100 10 q
    · exact boxes_qy h hln hin hq (Lib.hid hs) (Lib.hid hy) hT
    · have hqo := hq.out.ok (m := 10) hy (by omega) (by omega)
      by_cases hz : queryF inp L q = 0
      · obtain ⟨l, h1, h2, h3, h4⟩ := query_ok hz (fun k hk => by have := sizes_err hk; omega)
        have hst := sizes_steps h1
        have hso := steps_ok hst.2.2.2
        have hlen : l.length = ln + 1 := by rw [hso.1, h.1]
        have hl16 : ln ≤ 16 := by have := h.1; omega
        have hlast : l[ln]? = some (l.getLastD 0) := by
          rw [List.getLastD_eq_getLast?, List.getLast?_eq_getElem?, hlen, Nat.add_sub_cancel]
          rw [List.getElem?_eq_getElem (by omega)]
          rfl
        have hon := hqo.ones h2 (by omega)
        have ht := query_turn h1 h2 h3 h4
        have hlab := query_lab h1 h2 h3 h4
        have hlq : q.O.length = q.H.length := by rw [hq.out.o.1, hq.out.h.1]; have := h2.on; have := h2.hn; omega
        have k1 : ((q.xn : Int) == inp) = true := by rw [beq_iff_eq]; exact h2.xn
        have k2 : ((q.on : Int) == inp) = true := by rw [beq_iff_eq]; exact h2.on
        cases hp : (q.O.zip q.H).all sameP
        · rw [hp] at ht
          exact boxes_np h hln hin hq (Lib.hid hs) (Lib.hid hy) hok (Lib.hid hqo) (Lib.hid hon) (Lib.hid hz) (Lib.hid (list_of h1)) (Lib.hid hlen) (Lib.hid hlast) (Lib.hid ht) (Lib.hid hlab) (Lib.hid (by unfold sameFrs; rw [hp, Bool.and_false])) k1 k2 h2.ge h2.lt hq.out.lens.2 hl16 hT
        · rw [hp] at ht
          exact boxes_pt h hln hin hq (Lib.hid hs) (Lib.hid hy) hok (Lib.hid hqo) (Lib.hid hon) (Lib.hid hz) (Lib.hid (list_of h1)) (Lib.hid hlen) (Lib.hid hlast) (Lib.hid ht) (Lib.hid hlab) (Lib.hid (by unfold sameFrs; rw [hp, decide_eq_true hlq]; rfl)) k1 k2 h2.ge h2.lt hq.out.lens.2 hl16 hT
      · exact boxes_no h hln hin hq (Lib.hid hs) (Lib.hid hy) hok (Lib.hid hqo) (Lib.hid rfl) (by rw [bne_iff_ne]; exact hz) hT
theorem boxes_any {w : World} {v u : Value} (h : NtIn w v) (k : QyIn w u) (hT : Tab w) :
    Calls Tryd.prog 5 #[v, u] w (Yes w) := by
  obtain ⟨inp, A, n, c, L, rfl, _, h1, h2, h3, h4⟩ := h
  obtain ⟨xA, xn, xc, X, lab, oA, on, oc, O, hA, hn, hc, H, nm, rfl, _, _, ⟨x1, x2, x3, x4⟩, ⟨o1, o2, o3, o4⟩, y1, y2, y3, y4⟩ := k
  exact boxes_q (q := ⟨xA, xn, xc, X, lab, oA, on, oc, O, hA, hn, hc, H, nm⟩) h3 (by unfold maxLen at h2; omega) (Lib.hid h4) (Lib.hid ⟨x3, o3, y3, x4, o4, y4, by unfold maxLen at x2 o2 y2; simp only; omega⟩) (Lib.hid hT)
namespace shapesBoxes
open Go.ChangeShapes Go.WideShapes Go.ChangeAt Go.RowKit Tw

set_option maxRecDepth 100000 in
theorem contract (H : Type) (enc : TypeId × Value → H) (W : World) (base : Nat) (args : Array Value) (ds gs : List (DataW H)) (before : List MemPlace)
    (hval : ∀ (j : Nat) t v, Tryd.f5.params[j]? = some t → args[j]? = some v → Value.okWide Tryd.prog W .any base t v)
    (hW : DataW.Whole enc Tryd.prog Tryd.f5.params.toList Rows.shapesBoxesSpec.vars false W args.toList ds gs before) (hL : laidMetH Tryd.prog Rows.shapesBoxesRow.laid W) :
    Calls Tryd.prog 5 args W fun e W' => ∃ v, e = .returned v ∧ Rows.shapesBoxesSpec.post enc Tryd.prog Tryd.f5 false true false false W args v W' := by
  have hW' := hW
  obtain ⟨p, q, hA0, hV, rfl, hfz, hnd⟩ := hW
  have hA : DataW.TrodAll enc Tryd.prog W 0 (fun _ => true) true Tryd.f5.params.toList args.toList ds p := hA0
  rw [Tryd.params5] at hA hval
  obtain ⟨v0, vs0, d0, ds0, p0, q0, hargs, rfl, rfl, h0, r0⟩ := trodAll_cons hA
  obtain ⟨v1, vs1, d1, ds1, p1, q1, rfl, rfl, rfl, h1, r1⟩ := trodAll_cons r0
  obtain ⟨rfl, rfl, rfl⟩ := trodAll_nil r1
  obtain rfl : args = #[v0, v1] := by cases args; simp_all
  obtain ⟨rfl, rfl⟩ := trodVars_none hV
  have lt0 : ∀ x ∈ p0, x.block < W.heap.size := by obtain ⟨m, hm⟩ := h0; exact DataW.trod_lt m _ _ _ hm
  have n0 := net_of h0 (aggNet_of (hval 0 30 v0 rfl rfl))
  have lt1 : ∀ x ∈ p1, x.block < W.heap.size := by obtain ⟨m, hm⟩ := h1; exact DataW.trod_lt m _ _ _ hm
  have n1 := query_of h1 (aggQuery_of (hval 1 47 v1 rfl rfl))
  refine (boxes_any n0 n1 (tab_of hL)).mono fun e W' ⟨he, bel⟩ => ?_
  subst he
  exact ⟨_, rfl, _, _, _, [], _, [], hW', trodAll_mk1 (shut_bool Tryd.underlying4 _), (trodAll_cons_mk (Below.trod laidOut (by kernel_rfl) (of_decide_eq_true (by kernel_rfl)) h0 bel lt0) (trodAll_cons_mk (Below.trod laidOut (by kernel_rfl) (of_decide_eq_true (by kernel_rfl)) h1 bel lt1) trodAll_mk0)), rfl, bel.frame _, fun h => by cases h⟩

theorem laid_met (os : Os) : laidMet Tryd.prog Rows.shapesBoxesRow.laid ((laidWorld os).forCall (fun _ _ => 0) ⟨#[], #[.agg #[.int .i64 0, .slice none 0 0], .agg #[.slice none 0 0, .int .i64 0, .slice none 0 0, .slice none 0 0, .int .u8 0]], []⟩).memory :=
  laidMet_of_run' 8 (by kernel_rfl) (by kernel_rfl)
set_option maxRecDepth 100000 in
theorem reads (os : Os) {H : Type} (enc : TypeId × Value → H) : ∃ places, DataW.whole enc Tryd.prog ((laidWorld os).forCall (fun _ _ => 0) ⟨#[], #[.agg #[.int .i64 0, .slice none 0 0], .agg #[.slice none 0 0, .int .i64 0, .slice none 0 0, .slice none 0 0, .int .u8 0]], []⟩).memory Tryd.f5.params.toList Rows.shapesBoxesSpec.vars false (#[.agg #[.int .i64 0, .slice none 0 0], .agg #[.slice none 0 0, .int .i64 0, .slice none 0 0, .slice none 0 0, .int .u8 0]] : Array Value).toList 8 = some ([.agg [.lit (.int .i64 0), .nil], .agg [.nil, .lit (.int .i64 0), .nil, .nil, .lit (.int .u8 0)]], [], places) :=
  ⟨[], by kernel_rfl⟩

set_option maxRecDepth 100000 in
theorem lifted (os : Os) (started : os.Started) (H : Type) (enc : TypeId × Value → H) (F : Stop.Interp) :
    ReturnsInHanded {} Tryd.checked os 5 .any ((OpenSpec.ofChange Rows.shapesBoxesSpec).preRow enc Tryd.prog Tryd.f5 Rows.shapesBoxesRow.domain false Rows.shapesBoxesRow.laid) (((OpenSpec.ofChange Rows.shapesBoxesSpec).at F).post enc Tryd.prog Tryd.f5 false true false false) := by
  obtain ⟨places, hx⟩ := reads os enc
  refine returnsInHanded_of_row (C := Tryd.checked) (s := OpenSpec.ofChange Rows.shapesBoxesSpec) own started (by kernel_rfl) Tryd.func5
    (witness_row_at (enc := enc) (C := Tryd.checked) false (laidWorld os) #[.agg #[.int .i64 0, .slice none 0 0], .agg #[.slice none 0 0, .int .i64 0, .slice none 0 0, .slice none 0 0, .int .u8 0]] rfl (by kernel_rfl) (by kernel_rfl) (by kernel_rfl)
      (OpenSpec.preRow_of_cond 8 hx (by kernel_rfl) (fun k hk => by cases hk) (by kernel_rfl) (laid_met os))) ?_
  intro W base args ds gs before hval hW _ _ _ hL _ _
  exact contract H enc W base args ds gs before hval hW hL

theorem said : Rows.ShapesBoxesSaid :=
  OpenClaim.holds_of_cond 5 Tryd.f5 rfl rfl rfl rfl rfl rfl rfl ⟨rfl, rfl, rfl, rfl, rfl⟩ rfl rfl rfl rfl rfl (by kernel_rfl) Tryd.func5 (by kernel_rfl)
    (of_decide_eq_true (by kernel_rfl)) (by unfold Func.isWrapper; first | (rw [if_pos (by decide +kernel)]; kernel_rfl) | (rw [if_neg (by decide +kernel)]; exact ⟨rfl, rfl⟩))
    (fun os started H enc _ F => by rw [OpenClaim.pre_eq_preRow]; exact lifted os started H enc F)

theorem plain (f : FuncId) (fn : Func) (hf : Tryd.pinned.checked.prog.funcNamed "tripwire/tripwirelaw10.ShapesBoxes" = some f) (hfn : Tryd.pinned.checked.prog.funcs[f]? = some fn) :
    false = Tryd.pinned.checked.prog.looks [] ∧ ∀ (j : Nat) t, fn.params[j]? = some t → Tryd.pinned.checked.prog.wantsStandIn t = false := by
  obtain rfl : f = 5 := Option.some.inj ((show Tryd.prog.funcNamed "tripwire/tripwirelaw10.ShapesBoxes" = some 5 by kernel_rfl).symm.trans hf) |>.symm
  obtain rfl : fn = Tryd.f5 := (Option.some.inj (Tryd.func5.symm.trans hfn)).symm
  refine ⟨by kernel_rfl, fun j t ht => ?_⟩
  rw [Tryd.params5] at ht
  have hm := Array.mem_of_getElem? ht
  simp only [List.mem_toArray, List.mem_cons, List.not_mem_nil, or_false] at hm
  rcases hm with rfl | rfl
  · exact (show Tryd.prog.wantsStandIn 30 = false by kernel_rfl)
  · exact (show Tryd.prog.wantsStandIn 47 = false by kernel_rfl)

/-- The card. -/
theorem card : Rows.ShapesBoxesCardSaid :=
  Claim7.holds_tied_plain_at .later [] _ _ _ _ said (fun _ h => by cases h) (by kernel_rfl) (fun _ h => by cases h) shapesBoxes_row_tie rfl ⟨rfl, rfl⟩ (by kernel_rfl) rfl plain (by kernel_rfl)
end shapesBoxes
end Go.Proofs.YtionhpangenhnaaDoor
