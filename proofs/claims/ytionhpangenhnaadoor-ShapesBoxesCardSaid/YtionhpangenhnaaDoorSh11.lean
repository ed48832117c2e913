/-
  Which queries may be: shapes.Query. Written by wip/gen/sh11.py.
-/
import Derived.Test.YtionhpangenhnaaDoorSh10
namespace Go.Proofs.YtionhpangenhnaaDoor
open Go.RowKit Tw

/-- A slice of fractions in memory. -/
structure Fv where
  A : Option Addr
  n : Nat
  c : Nat
  L : List Fr
def Fv.cs (v : Fv) : List Value := [.slice v.A v.n v.c]
theorem Fv.cs_len (v : Fv) : v.cs.length = 1 := rfl
def FvOk (w : World) (m : Nat) (v : Fv) : Prop := Sl Fr.cs 4 w v.A v.n v.c v.L ∧ (∀ x ∈ v.L, FrOk w m x) ∧ v.n ≤ 100000
theorem FvOk.sl {w : World} {m : Nat} {v : Fv} (h : FvOk w m v) : Sl Fr.cs 4 w v.A v.n v.c v.L := h.1
theorem FvOk.fr {w : World} {m : Nat} {v : Fv} (h : FvOk w m v) : ∀ x ∈ v.L, FrOk w m x := h.2.1
theorem FvOk.below {w w' : World} {m : Nat} {v : Fv} (h : FvOk w m v) (hb : Below w.heap.size w w') : FvOk w' m v := ⟨h.1.below hb, fun x hx => (h.2.1 x hx).below hb, h.2.2⟩
/-- As many numbers as inputs, each in its one form. -/
def okV (inp : Int) (v : Fv) : Bool := decide ((v.n : Int) = inp) && v.L.all (fun x => x.ex)
/-- A query in memory. -/
structure Qy where
  xA : Option Addr
  xn : Nat
  xc : Nat
  X : List Fr
  label : Int
  oA : Option Addr
  on : Nat
  oc : Nat
  O : List Fr
  hA : Option Addr
  hn : Nat
  hc : Nat
  H : List Fr
  norm : Int
def Qy.x (q : Qy) : Fv := ⟨q.xA, q.xn, q.xc, q.X⟩
def Qy.o (q : Qy) : Fv := ⟨q.oA, q.on, q.oc, q.O⟩
def Qy.h (q : Qy) : Fv := ⟨q.hA, q.hn, q.hc, q.H⟩
def Qy.cs (q : Qy) : List Value := [.slice q.xA q.xn q.xc, .int .i64 q.label, .slice q.oA q.on q.oc, .slice q.hA q.hn q.hc, .int .u8 q.norm]
structure QyOk (w : World) (m : Nat) (q : Qy) : Prop where
  x : FvOk w m q.x
  o : FvOk w m q.o
  h : FvOk w m q.h
theorem QyOk.below {w w' : World} {m : Nat} {q : Qy} (h : QyOk w m q) (hb : Below w.heap.size w w') : QyOk w' m q := ⟨h.x.below hb, h.o.below hb, h.h.below hb⟩
/-- Is no number of Lo above that of Hi? -/
def boxP (p : Fr × Fr) : Bool := decide (¬ 0 < cmpQ p.1.q p.2.q)
def boxB (q : Qy) : Bool := (q.O.zip q.H).all boxP
def okQ (inp : Int) (q : Qy) : Bool := okV inp q.x && (okV inp q.o && okV inp q.h)
/-- What Query tells. -/
def queryF (inp : Int) (L : List Ly) (q : Qy) : Int :=
  match sizesF inp L with
  | .error k => k
  | .ok us => if okQ inp q = false then 22 else if q.norm ≠ 1 ∧ q.norm ≠ 2 then 22 else if boxB q = false then 23 else if q.label < 0 then 24 else if us.getLastD 0 ≤ q.label then 24 else 0
set_option maxRecDepth 100000 in
set_option maxHeartbeats 4000000 in
theorem query1_q {w : World} {m bn : Nat} {v : Fv} {inp : Int} {lA : Option Addr} {ln lc : Nat} (h : FvOk w m v) (hm : m ≤ 20000) (xb : Bx w bn #[.int .i64 inp, .slice lA ln lc] 30) (r : Bool) (hr : Hid (okV inp v = r)) (hT : Hid (Tab w)) :
    Calls Tryd.prog 42 #[.slice v.A v.n v.c, .pointer (some ⟨bn, 0, none⟩)] w fun e w' => e = .returned (.bool r) ∧ Below w.heap.size w w' := by
  have hvn := h.2.2
  by_cases h0 : (v.n : Int) = inp
  · have g0 : ((v.n : Int) == inp) = true := by simpa using h0
    have HR : Hid (v.L.all (fun x => x.ex) = r) := Lib.hid (by rw [← hr.out]; unfold okV; rw [decide_eq_true h0, Bool.true_and])
    clear hr h0
    have HX0 := Lib.hid xb
    have hB := Below.refl w.heap.size w
    have Bz := Below.refl w.heap.size w
    have p0_0 := (HX0.out.below Bz).cell 0 (.int .i64 inp) rfl
    go_enter Tryd.func42, Tryd.ntmps42
    go_wp2_with fail
    with_reducible refine (all_query11 (h.sl.below (below_trans hB (below_trans (b := w) Bz (by go_grown)))) (Lib.hid fun x hx => (h.fr x hx).below (below_trans hB (below_trans (b := w) Bz (by go_grown)))) (by omega) (Lib.hid (Tab.below hT.out (below_trans hB (below_trans (b := w) Bz (by go_grown))))) (by omega) r HR).mono ?_
    rintro e w1 ⟨rfl, b1⟩
    replace b1 := below_trans (a := w) (by go_grown) b1
    replace Bz := below_trans Bz b1
    clear b1
    clear p0_0
    go_wp2_with fail
    go_ret
    have hF := below_trans (c := w1) hB Bz
    exact ⟨rfl, below_trans hF (by go_grown)⟩
  · have g0 : ((v.n : Int) == inp) = false := by simpa using h0
    obtain rfl : r = false := by rw [← hr.out]; unfold okV; rw [decide_eq_false h0, Bool.false_and]
    clear hr h0
    have HX0 := Lib.hid xb
    have hB := Below.refl w.heap.size w
    have Bz := Below.refl w.heap.size w
    have p0_0 := (HX0.out.below Bz).cell 0 (.int .i64 inp) rfl
    go_enter Tryd.func42, Tryd.ntmps42
    go_wp2_with fail
    go_ret
    have hF := below_trans (c := w) hB Bz
    exact ⟨rfl, below_trans hF (by go_grown)⟩
set_option maxRecDepth 100000 in
set_option maxHeartbeats 4000000 in
theorem all_rats {w : World} {A : Option Addr} {n c m bn : Nat} {L : List Fv} {inp : Int} {lA : Option Addr} {ln lc : Nat} (h : Sl Fv.cs 1 w A n c L) (hok : Hid (∀ v ∈ L, FvOk w m v)) (hm : m ≤ 20000) (hn : n ≤ 1000000000) (xb : Bx w bn #[.int .i64 inp, .slice lA ln lc] 30) (r : Bool) (hr : Hid (L.all (okV inp) = r)) (hT : Hid (Tab w)) :
    Calls Tryd.prog 46 #[.slice A n c, .func (.func 42) #[] #[.pointer (some ⟨bn, 0, none⟩)]] w fun e w' => e = .returned (.bool r) ∧ Below w.heap.size w w' := by
  have H := Lib.hid h
  have HLN := Lib.hid h.1
  have HXB := Lib.hid xb
  have hst : AL1 w L (okV inp) n n (.int .i64 ((0 : Nat) : Int)) w := ⟨0, Nat.zero_le _, rfl, rfl, Below.refl _ _, by simp⟩
  have HST := Lib.hid hst
  clear h hst xb
  go_enter Tryd.func46, Tryd.ntmps46
  go_wp2_with fail
  go_loopg [9] n (fun gk s wr => AL1 w L (okV inp) n gk s wr)
  case atStart => exact HST.out
  case round =>
    clear HST
    obtain ⟨i, hi, hgk, rfl, hB, hd⟩ := hrel
    have HGK := Lib.hid hgk
    have HD := Lib.hid hd
    clear hgk hd
    by_cases hlt : i < n
    · obtain ⟨b, off, rfl, hel⟩ := H.out.at Fv.cs_len (by omega) (by omega)
      obtain ⟨x, hx⟩ : ∃ x, L[i]? = some x := ⟨L[i]'(by rw [HLN.out]; exact hlt), List.getElem?_eq_getElem _⟩
      have hnd : ElA w b (off + i) x.cs := by have := hel i x hx; rwa [Nat.mul_one] at this
      have HTI := Lib.hid hx
      have HV := Lib.hid (hok.out x (List.mem_of_getElem? hx))
      have i1 : (i : Int) < (n : Int) := by omega
      have i2 : (0 : Int) ≤ (i : Int) := by omega
      clear hx hel
      cases hp : okV inp x
      · have HP := Lib.hid hp
        clear hp
        have Bz := Below.refl wr.heap.size wr
        have p50_0 := (hnd.below (below_trans hB Bz)).c0 (u := .slice x.A x.n x.c) rfl
        go_wp2_with fail
        with_reducible refine (query1_q (HV.out.below (below_trans hB (below_trans (b := wr) Bz (by go_grown)))) hm (HXB.out.below (below_trans hB (below_trans (b := wr) Bz (by go_grown)))) false HP (Lib.hid (Tab.below hT.out (below_trans hB (below_trans (b := wr) Bz (by go_grown)))))).mono ?_
        rintro e w1 ⟨rfl, b1⟩
        replace b1 := below_trans (a := wr) (by go_grown) b1
        replace Bz := below_trans Bz b1
        clear b1
        clear p50_0
        go_wp2_with fail
        go_ret
        have hF := below_trans (c := w1) hB Bz
        obtain rfl : r = false := by rw [← hr.out]; exact all_no HTI.out HP.out
        exact ⟨rfl, below_trans (below_trans hB Bz) (by go_grown)⟩
      · have HP := Lib.hid hp
        clear hp
        have Bz := Below.refl wr.heap.size wr
        have p50_0 := (hnd.below (below_trans hB Bz)).c0 (u := .slice x.A x.n x.c) rfl
        go_wp2_with fail
        with_reducible refine (query1_q (HV.out.below (below_trans hB (below_trans (b := wr) Bz (by go_grown)))) hm (HXB.out.below (below_trans hB (below_trans (b := wr) Bz (by go_grown)))) true HP (Lib.hid (Tab.below hT.out (below_trans hB (below_trans (b := wr) Bz (by go_grown)))))).mono ?_
        rintro e w1 ⟨rfl, b1⟩
        replace b1 := below_trans (a := wr) (by go_grown) b1
        replace Bz := below_trans Bz b1
        clear b1
        clear p50_0
        go_wp2_with fail
        go_roundg (n - (i + 1))
        case measure => have := HGK.out; omega
        case rel => exact ⟨i + 1, by omega, rfl, by go_num, below_trans (below_trans hB Bz) (by go_grown), take_all HD.out HTI.out HP.out⟩
    · obtain rfl : i = n := by omega
      have i1 : ¬ (i : Int) < (i : Int) := by omega
      obtain rfl : r = true := by rw [← hr.out]; exact all_yes HLN.out HD.out
      go_wp2_with fail
      go_ret
      exact ⟨rfl, hB⟩
/-- A literal of slices of fractions. -/
theorem fvs_sl {w : World} {b : Nat} (L : List Fv) (h : Bx w b (L.map fun v => Value.slice v.A v.n v.c).toArray 35) (n : Nat) (hn : L.length = n) : Sl Fv.cs 1 w (some ⟨b, 0, none⟩) n n L := by
  subst hn
  refine ⟨rfl, by rw [flat_len Fv.cs_len], _, _, rfl, (fun h => (by cases h)), fun a ha j u hu => ?_⟩
  cases ha
  rw [add_off, Nat.zero_add]
  refine h.cell j u ?_
  rw [List.getElem?_toArray]
  have e : ∀ L : List Fv, flat Fv.cs L = L.map fun v => Value.slice v.A v.n v.c := fun L => by
    unfold flat
    induction L with
    | nil => rfl
    | cons x L ih => rw [List.flatMap_cons, ih]; rfl
  rw [← e]; exact hu
/-- A state of the loop of Query. -/
def QU1 (w : World) (qc : Array Value) (Z : List (Fr × Fr)) (n gk : Nat) (s : Value) (wr : World) : Prop := ∃ i : Nat, i ≤ n ∧ n - i = gk ∧ s = .int .i64 (i : Int) ∧ Below w.heap.size w wr ∧ Bx wr (w.heap.size + 1) qc 47 ∧ (Z.take i).all boxP = true
set_option maxRecDepth 100000 in
set_option maxHeartbeats 4000000 in
theorem query_er {w : World} {m : Nat} {inp : Int} {lA : Option Addr} {ln lc : Nat} {L : List Ly} {q : Qy} (h : Sl Ly.cs 13 w lA ln lc L) (hok : Hid (∀ y ∈ L, LyOk w m y)) (hm : m ≤ 20000) (hln : ln ≤ 9223372036854775807) (hq : QyOk w m q) {z : Int} (HZ : Hid (sizesF inp L = .error z)) (g1 : (z != 0) = true) (HA : Hid (queryF inp L q = z)) (hT : Hid (Tab w)) :
    Calls Tryd.prog 14 #[.agg #[.int .i64 inp, .slice lA ln lc], .agg #[.slice q.xA q.xn q.xc, .int .i64 q.label, .slice q.oA q.on q.oc, .slice q.hA q.hn q.hc, .int .u8 q.norm]] w fun e w' => e = .returned (.int .i64 (queryF inp L q)) ∧ Below w.heap.size w w' := by
  have hql : q.xn ≤ 100000 ∧ q.on ≤ 100000 ∧ q.hn ≤ 100000 := ⟨hq.x.2.2, hq.o.2.2, hq.h.2.2⟩
  obtain ⟨W, hW, x0, x1, hB⟩ := boxes2 w #[.int .i64 inp, .slice lA ln lc] 30 #[.slice q.xA q.xn q.xc, .int .i64 q.label, .slice q.oA q.on q.oc, .slice q.hA q.hn q.hc, .int .u8 q.norm] 47
  have HX0 := Lib.hid x0
  have HX1 := Lib.hid x1
  clear x0 x1
  have Bz := Below.refl W.heap.size W
  have p0_0 := (HX0.out.below Bz).cell 0 (.int .i64 inp) rfl
  have p0_1 := (HX0.out.below Bz).cell 1 (.slice lA ln lc) rfl
  go_enter Tryd.func14, Tryd.ntmps14
  go_wp2_with fail
  rw [← hW]
  clear hW
  go_wp2_with fail
  with_reducible refine ((sizes_q (h.below (below_trans hB (below_trans (b := W) Bz (by go_grown)))) (Lib.hid fun y hy => (hok.out y hy).below (below_trans hB (below_trans (b := W) Bz (by go_grown)))) hm hln (Lib.hid (Tab.below hT.out (below_trans hB (below_trans (b := W) Bz (by go_grown)))))).mono fun _ _ hx => TellsZs.er hx HZ.out).mono ?_
  rintro e w1 ⟨rfl, b1⟩
  replace b1 := below_trans (a := W) (by go_grown) b1
  replace Bz := below_trans Bz b1
  clear b1
  clear p0_0 p0_1
  go_wp2_with fail
  go_ret
  have hF := below_trans (c := w1) hB Bz
  exact ⟨by rw [HA.out]; rfl, below_trans hF (by go_grown)⟩
set_option maxRecDepth 100000 in
set_option maxHeartbeats 4000000 in
theorem query_sh {w : World} {m : Nat} {inp : Int} {lA : Option Addr} {ln lc : Nat} {L : List Ly} {q : Qy} (h : Sl Ly.cs 13 w lA ln lc L) (hok : Hid (∀ y ∈ L, LyOk w m y)) (hm : m ≤ 20000) (hln : ln ≤ 9223372036854775807) (hq : QyOk w m q) {l : List Int} (HZ : Hid (sizesF inp L = .ok l)) (HO : Hid ([q.x, q.o, q.h].all (okV inp) = false)) (HA : Hid (queryF inp L q = 22)) (hT : Hid (Tab w)) :
    Calls Tryd.prog 14 #[.agg #[.int .i64 inp, .slice lA ln lc], .agg #[.slice q.xA q.xn q.xc, .int .i64 q.label, .slice q.oA q.on q.oc, .slice q.hA q.hn q.hc, .int .u8 q.norm]] w fun e w' => e = .returned (.int .i64 (queryF inp L q)) ∧ Below w.heap.size w w' := by
  have hql : q.xn ≤ 100000 ∧ q.on ≤ 100000 ∧ q.hn ≤ 100000 := ⟨hq.x.2.2, hq.o.2.2, hq.h.2.2⟩
  obtain ⟨W, hW, x0, x1, hB⟩ := boxes2 w #[.int .i64 inp, .slice lA ln lc] 30 #[.slice q.xA q.xn q.xc, .int .i64 q.label, .slice q.oA q.on q.oc, .slice q.hA q.hn q.hc, .int .u8 q.norm] 47
  have HX0 := Lib.hid x0
  have HX1 := Lib.hid x1
  clear x0 x1
  have Bz := Below.refl W.heap.size W
  have p0_0 := (HX0.out.below Bz).cell 0 (.int .i64 inp) rfl
  have p0_1 := (HX0.out.below Bz).cell 1 (.slice lA ln lc) rfl
  go_enter Tryd.func14, Tryd.ntmps14
  go_wp2_with fail
  rw [← hW]
  clear hW
  go_wp2_with fail
  with_reducible refine ((sizes_q (h.below (below_trans hB (below_trans (b := W) Bz (by go_grown)))) (Lib.hid fun y hy => (hok.out y hy).below (below_trans hB (below_trans (b := W) Bz (by go_grown)))) hm hln (Lib.hid (Tab.below hT.out (below_trans hB (below_trans (b := W) Bz (by go_grown)))))).mono fun _ _ hx => TellsZs.ok hx HZ.out).mono ?_
  rintro e w1 ⟨A1, n1, c1, rfl, h1, hc1, b1⟩
  replace b1 := below_trans (a := W) (by go_grown) b1
  replace Bz := below_trans Bz b1
  clear h1
  clear b1
  clear p0_0 p0_1
  have p1_0 := (HX1.out.below Bz).cell 0 (.slice q.xA q.xn q.xc) rfl
  have p1_2 := (HX1.out.below Bz).cell 2 (.slice q.oA q.on q.oc) rfl
  have p1_3 := (HX1.out.below Bz).cell 3 (.slice q.hA q.hn q.hc) rfl
  go_wp2_with fail
  obtain ⟨V1, hW, x2, hN⟩ := boxes1 w1 #[.slice q.xA q.xn q.xc, .slice q.oA q.on q.oc, .slice q.hA q.hn q.hc] 35
  rw [← hW]
  clear hW
  obtain ⟨v2, hb2⟩ : ∃ b, b = w1.heap.size := ⟨_, rfl⟩
  rw [← hb2] at x2 ⊢
  have o0_2 : w.heap.size < v2 := by have := (HX0.out.below Bz).lt; omega
  have o1_2 : w.heap.size + 1 < v2 := by have := (HX1.out.below Bz).lt; omega
  have ow_2 : w.heap.size ≤ v2 := by have := hB.size; have := Bz.size; omega
  replace hB := below_trans (below_trans hB Bz) hN
  replace HX0 := Lib.hid ((HX0.out.below Bz).below hN)
  replace HX1 := Lib.hid ((HX1.out.below Bz).below hN)
  have HX2 := Lib.hid x2
  clear x2 hN Bz hb2
  have Bz := Below.refl V1.heap.size V1
  clear p1_0 p1_2 p1_3
  with_reducible refine (all_rats (fvs_sl [q.x, q.o, q.h] (HX2.out.below (below_trans Bz (by go_grown))) 3 rfl) (Lib.hid fun v hv => by simp at hv; rcases hv with rfl | rfl | rfl; exact hq.x.below (below_trans hB (below_trans (b := V1) Bz (by go_grown))); exact hq.o.below (below_trans hB (below_trans (b := V1) Bz (by go_grown))); exact hq.h.below (below_trans hB (below_trans (b := V1) Bz (by go_grown)))) hm (by omega) (HX0.out.below (below_trans Bz (by go_grown))) false HO (Lib.hid (Tab.below hT.out (below_trans hB (below_trans (b := V1) Bz (by go_grown)))))).mono ?_
  rintro e w2 ⟨rfl, b2⟩
  replace b2 := below_trans (a := V1) (by go_grown) b2
  replace Bz := below_trans Bz b2
  clear b2
  have p1_4 := (HX1.out.below Bz).cell 4 (.int .u8 q.norm) rfl
  go_wp2_with fail
  go_ret
  have hF := below_trans (c := w2) hB Bz
  exact ⟨by rw [HA.out]; rfl, below_trans hF (by go_grown)⟩
set_option maxRecDepth 100000 in
set_option maxHeartbeats 4000000 in
theorem query_nm {w : World} {m : Nat} {inp : Int} {lA : Option Addr} {ln lc : Nat} {L : List Ly} {q : Qy} (h : Sl Ly.cs 13 w lA ln lc L) (hok : Hid (∀ y ∈ L, LyOk w m y)) (hm : m ≤ 20000) (hln : ln ≤ 9223372036854775807) (hq : QyOk w m q) {l : List Int} (HZ : Hid (sizesF inp L = .ok l)) (HO : Hid ([q.x, q.o, q.h].all (okV inp) = true)) (n1 : (q.norm != 1) = true) (n2 : (q.norm != 2) = true) (HA : Hid (queryF inp L q = 22)) (hT : Hid (Tab w)) :
    Calls Tryd.prog 14 #[.agg #[.int .i64 inp, .slice lA ln lc], .agg #[.slice q.xA q.xn q.xc, .int .i64 q.label, .slice q.oA q.on q.oc, .slice q.hA q.hn q.hc, .int .u8 q.norm]] w fun e w' => e = .returned (.int .i64 (queryF inp L q)) ∧ Below w.heap.size w w' := by
  have hql : q.xn ≤ 100000 ∧ q.on ≤ 100000 ∧ q.hn ≤ 100000 := ⟨hq.x.2.2, hq.o.2.2, hq.h.2.2⟩
  obtain ⟨W, hW, x0, x1, hB⟩ := boxes2 w #[.int .i64 inp, .slice lA ln lc] 30 #[.slice q.xA q.xn q.xc, .int .i64 q.label, .slice q.oA q.on q.oc, .slice q.hA q.hn q.hc, .int .u8 q.norm] 47
  have HX0 := Lib.hid x0
  have HX1 := Lib.hid x1
  clear x0 x1
  have Bz := Below.refl W.heap.size W
  have p0_0 := (HX0.out.below Bz).cell 0 (.int .i64 inp) rfl
  have p0_1 := (HX0.out.below Bz).cell 1 (.slice lA ln lc) rfl
  go_enter Tryd.func14, Tryd.ntmps14
  go_wp2_with fail
  rw [← hW]
  clear hW
  go_wp2_with fail
  with_reducible refine ((sizes_q (h.below (below_trans hB (below_trans (b := W) Bz (by go_grown)))) (Lib.hid fun y hy => (hok.out y hy).below (below_trans hB (below_trans (b := W) Bz (by go_grown)))) hm hln (Lib.hid (Tab.below hT.out (below_trans hB (below_trans (b := W) Bz (by go_grown)))))).mono fun _ _ hx => TellsZs.ok hx HZ.out).mono ?_
  rintro e w1 ⟨A1, n1, c1, rfl, h1, hc1, b1⟩
  replace b1 := below_trans (a := W) (by go_grown) b1
  replace Bz := below_trans Bz b1
  clear h1
  clear b1
  clear p0_0 p0_1
  have p1_0 := (HX1.out.below Bz).cell 0 (.slice q.xA q.xn q.xc) rfl
  have p1_2 := (HX1.out.below Bz).cell 2 (.slice q.oA q.on q.oc) rfl
  have p1_3 := (HX1.out.below Bz).cell 3 (.slice q.hA q.hn q.hc) rfl
  go_wp2_with fail
  obtain ⟨V1, hW, x2, hN⟩ := boxes1 w1 #[.slice q.xA q.xn q.xc, .slice q.oA q.on q.oc, .slice q.hA q.hn q.hc] 35
  rw [← hW]
  clear hW
  obtain ⟨v2, hb2⟩ : ∃ b, b = w1.heap.size := ⟨_, rfl⟩
  rw [← hb2] at x2 ⊢
  have o0_2 : w.heap.size < v2 := by have := (HX0.out.below Bz).lt; omega
  have o1_2 : w.heap.size + 1 < v2 := by have := (HX1.out.below Bz).lt; omega
  have ow_2 : w.heap.size ≤ v2 := by have := hB.size; have := Bz.size; omega
  replace hB := below_trans (below_trans hB Bz) hN
  replace HX0 := Lib.hid ((HX0.out.below Bz).below hN)
  replace HX1 := Lib.hid ((HX1.out.below Bz).below hN)
  have HX2 := Lib.hid x2
  clear x2 hN Bz hb2
  have Bz := Below.refl V1.heap.size V1
  clear p1_0 p1_2 p1_3
  with_reducible refine (all_rats (fvs_sl [q.x, q.o, q.h] (HX2.out.below (below_trans Bz (by go_grown))) 3 rfl) (Lib.hid fun v hv => by simp at hv; rcases hv with rfl | rfl | rfl; exact hq.x.below (below_trans hB (below_trans (b := V1) Bz (by go_grown))); exact hq.o.below (below_trans hB (below_trans (b := V1) Bz (by go_grown))); exact hq.h.below (below_trans hB (below_trans (b := V1) Bz (by go_grown)))) hm (by omega) (HX0.out.below (below_trans Bz (by go_grown))) true HO (Lib.hid (Tab.below hT.out (below_trans hB (below_trans (b := V1) Bz (by go_grown)))))).mono ?_
  rintro e w2 ⟨rfl, b2⟩
  replace b2 := below_trans (a := V1) (by go_grown) b2
  replace Bz := below_trans Bz b2
  clear b2
  have p1_4 := (HX1.out.below Bz).cell 4 (.int .u8 q.norm) rfl
  go_wp2_with fail
  go_ret
  have hF := below_trans (c := w2) hB Bz
  exact ⟨by rw [HA.out]; rfl, below_trans hF (by go_grown)⟩
set_option maxRecDepth 100000 in
set_option maxHeartbeats 4000000 in
theorem query_m1 {w : World} {m : Nat} {ni : Nat} {lA : Option Addr} {ln lc : Nat} {L : List Ly} {q : Qy} (h : Sl Ly.cs 13 w lA ln lc L) (hok : Hid (∀ y ∈ L, LyOk w m y)) (hm : m ≤ 20000) (hln : ln ≤ 9223372036854775807) (hq : QyOk w m q) {l : List Int} (HZ : Hid (sizesF (ni : Int) L = .ok l)) (HO : Hid ([q.x, q.o, q.h].all (okV (ni : Int)) = true)) (n1 : (q.norm != 1) = false) (HOQ : Hid (okQ (ni : Int) q = true)) (HNM : Hid (¬ (q.norm ≠ 1 ∧ q.norm ≠ 2))) (hT : Hid (Tab w)) :
    Calls Tryd.prog 14 #[.agg #[.int .i64 (ni : Int), .slice lA ln lc], .agg #[.slice q.xA q.xn q.xc, .int .i64 q.label, .slice q.oA q.on q.oc, .slice q.hA q.hn q.hc, .int .u8 q.norm]] w fun e w' => e = .returned (.int .i64 (queryF (ni : Int) L q)) ∧ Below w.heap.size w w' := by
  have hql : q.xn ≤ 100000 ∧ q.on ≤ 100000 ∧ q.hn ≤ 100000 := ⟨hq.x.2.2, hq.o.2.2, hq.h.2.2⟩
  obtain ⟨W, hW, x0, x1, hB⟩ := boxes2 w #[.int .i64 (ni : Int), .slice lA ln lc] 30 #[.slice q.xA q.xn q.xc, .int .i64 q.label, .slice q.oA q.on q.oc, .slice q.hA q.hn q.hc, .int .u8 q.norm] 47
  have HX0 := Lib.hid x0
  have HX1 := Lib.hid x1
  clear x0 x1
  have Bz := Below.refl W.heap.size W
  have p0_0 := (HX0.out.below Bz).cell 0 (.int .i64 (ni : Int)) rfl
  have p0_1 := (HX0.out.below Bz).cell 1 (.slice lA ln lc) rfl
  go_enter Tryd.func14, Tryd.ntmps14
  go_wp2_with fail
  rw [← hW]
  clear hW
  go_wp2_with fail
  with_reducible refine ((sizes_q (h.below (below_trans hB (below_trans (b := W) Bz (by go_grown)))) (Lib.hid fun y hy => (hok.out y hy).below (below_trans hB (below_trans (b := W) Bz (by go_grown)))) hm hln (Lib.hid (Tab.below hT.out (below_trans hB (below_trans (b := W) Bz (by go_grown)))))).mono fun _ _ hx => TellsZs.ok hx HZ.out).mono ?_
  rintro e w1 ⟨A1, n1, c1, rfl, h1, hc1, b1⟩
  replace b1 := below_trans (a := W) (by go_grown) b1
  replace Bz := below_trans Bz b1
  clear b1
  clear p0_0 p0_1
  have p1_0 := (HX1.out.below Bz).cell 0 (.slice q.xA q.xn q.xc) rfl
  have p1_2 := (HX1.out.below Bz).cell 2 (.slice q.oA q.on q.oc) rfl
  have p1_3 := (HX1.out.below Bz).cell 3 (.slice q.hA q.hn q.hc) rfl
  go_wp2_with fail
  obtain ⟨V1, hW, x2, hN⟩ := boxes1 w1 #[.slice q.xA q.xn q.xc, .slice q.oA q.on q.oc, .slice q.hA q.hn q.hc] 35
  rw [← hW]
  clear hW
  obtain ⟨v2, hb2⟩ : ∃ b, b = w1.heap.size := ⟨_, rfl⟩
  rw [← hb2] at x2 ⊢
  have o0_2 : w.heap.size < v2 := by have := (HX0.out.below Bz).lt; omega
  have o1_2 : w.heap.size + 1 < v2 := by have := (HX1.out.below Bz).lt; omega
  have ow_2 : w.heap.size ≤ v2 := by have := hB.size; have := Bz.size; omega
  replace h1 := h1.below hN
  replace hB := below_trans (below_trans hB Bz) hN
  replace HX0 := Lib.hid ((HX0.out.below Bz).below hN)
  replace HX1 := Lib.hid ((HX1.out.below Bz).below hN)
  have HX2 := Lib.hid x2
  clear x2 hN Bz hb2
  have Bz := Below.refl V1.heap.size V1
  clear p1_0 p1_2 p1_3
  with_reducible refine (all_rats (fvs_sl [q.x, q.o, q.h] (HX2.out.below (below_trans Bz (by go_grown))) 3 rfl) (Lib.hid fun v hv => by simp at hv; rcases hv with rfl | rfl | rfl; exact hq.x.below (below_trans hB (below_trans (b := V1) Bz (by go_grown))); exact hq.o.below (below_trans hB (below_trans (b := V1) Bz (by go_grown))); exact hq.h.below (below_trans hB (below_trans (b := V1) Bz (by go_grown)))) hm (by omega) (HX0.out.below (below_trans Bz (by go_grown))) true HO (Lib.hid (Tab.below hT.out (below_trans hB (below_trans (b := V1) Bz (by go_grown)))))).mono ?_
  rintro e w2 ⟨rfl, b2⟩
  replace b2 := below_trans (a := V1) (by go_grown) b2
  replace h1 := h1.below b2
  replace Bz := below_trans Bz b2
  clear b2
  have p0_0 := (HX0.out.below Bz).cell 0 (.int .i64 (ni : Int)) rfl
  have p1_4 := (HX1.out.below Bz).cell 4 (.int .u8 q.norm) rfl
  go_wp2_with fail
  have hin := sizes_steps HZ.out
  have hst := steps_ok hin.2.2.2
  have hon : q.on = ni ∧ q.hn = ni := by
    have := HOQ.out
    simp only [okQ, okV, Bool.and_eq_true, decide_eq_true_eq] at this
    obtain ⟨_, ⟨h1, _⟩, h2, _⟩ := this
    simp only [Qy.o] at h1
    simp only [Qy.h] at h2
    omega
  have HOL : Hid (q.O.length = ni) := Lib.hid (hq.o.1.1.trans hon.1)
  have HHL : Hid (q.H.length = ni) := Lib.hid (hq.h.1.1.trans hon.2)
  have hon2 : q.on ≤ ni ∧ ni ≤ q.on ∧ q.hn ≤ ni ∧ ni ≤ q.hn := by omega
  clear hon
  have HZL : Hid ((q.O.zip q.H).length = ni) := Lib.hid (by rw [List.length_zip, HOL.out, HHL.out]; exact Nat.min_self _)
  have HQO : Hid (Sl Fr.cs 4 w q.oA q.on q.oc q.O) := Lib.hid hq.o.1
  have HQH : Hid (Sl Fr.cs 4 w q.hA q.hn q.hc q.H) := Lib.hid hq.h.1
  have HB1 := Lib.hid (below_trans hB Bz)
  have XX1 := Lib.hid (HX1.out.below Bz)
  have HU := Lib.hid h1
  obtain ⟨nl, rfl⟩ : ∃ nl, n1 = nl + 1 := ⟨L.length, h1.1.symm.trans hst.1⟩
  have HLL : Hid (l.length = nl + 1) := Lib.hid h1.1
  have hnl : nl ≤ 16 := by have h1 := hst.1; have h2 := HLL.out; have h3 := hin.2.2.1; omega
  have hnm : ni ≤ 64 := by have := hin.2.1; omega
  clear hB Bz HX0 HX1 HX2 h1 hst hin
  go_loopg [40] ni (fun gk s wr => QU1 w #[.slice q.xA q.xn q.xc, .int .i64 q.label, .slice q.oA q.on q.oc, .slice q.hA q.hn q.hc, .int .u8 q.norm] (q.O.zip q.H) ni gk s wr ∧ Below w2.heap.size w2 wr)
  case atStart => exact ⟨⟨0, Nat.zero_le _, rfl, rfl, HB1.out, XX1.out, by simp⟩, Below.refl _ _⟩
  case round =>
    clear HB1 XX1
    obtain ⟨⟨i, hi, hgk, rfl, hB, hx1, hd⟩, hBW⟩ := hrel
    have HGK := Lib.hid hgk
    have HD := Lib.hid hd
    have HX1 := Lib.hid hx1
    clear hgk hd hx1
    by_cases hlt : i < ni
    · obtain ⟨b, off, hoA, hel⟩ := HQO.out.at Fr.cs_len (by omega) (by omega)
      obtain ⟨b', off', hhA, hel'⟩ := HQH.out.at Fr.cs_len (by omega) (by omega)
      rw [hoA, hhA] at HX1
      obtain ⟨x, hx⟩ : ∃ x, q.O[i]? = some x := ⟨q.O[i]'(by rw [HOL.out]; exact hlt), List.getElem?_eq_getElem _⟩
      obtain ⟨y, hy⟩ : ∃ y, q.H[i]? = some y := ⟨q.H[i]'(by rw [HHL.out]; exact hlt), List.getElem?_eq_getElem _⟩
      have hnd := hel i x hx
      have hnd' := hel' i y hy
      have HZI : Hid ((q.O.zip q.H)[i]? = some (x, y)) := Lib.hid (by rw [List.getElem?_zip_eq_some]; exact ⟨hx, hy⟩)
      have HXI := Lib.hid hx
      have HYI := Lib.hid hy
      have HOA := Lib.hid hoA
      have HHA := Lib.hid hhA
      have i1 : (i : Int) < (ni : Int) := by omega
      have i2 : (0 : Int) ≤ (i : Int) := by omega
      have i3 : (i : Int) < (q.on : Int) := by omega
      have i4 : (i : Int) < (q.hn : Int) := by omega
      obtain ⟨z, HZZ⟩ : ∃ z, Hid (cmpQ x.q y.q = z) := ⟨_, Lib.hid rfl⟩
      clear hx hel hy hel' hoA hhA
      by_cases hz : 0 < z
      · have HP : Hid (boxP (x, y) = false) := Lib.hid (by unfold boxP; simp only; rw [HZZ.out]; simpa using hz)
        have Bz := Below.refl wr.heap.size wr
        have p1_2 := (HX1.out.below Bz).cell 2 (.slice (some ⟨b, off, none⟩) q.on q.oc) rfl
        have p1_3 := (HX1.out.below Bz).cell 3 (.slice (some ⟨b', off', none⟩) q.hn q.hc) rfl
        have p50_0 := (hnd.below (below_trans hB Bz)).c0 (u := .bool x.s) rfl
        have p50_1 := (hnd.below (below_trans hB Bz)).at 1 (.slice x.A x.l x.c) rfl
        have p50_2 := (hnd.below (below_trans hB Bz)).at 2 (.bool x.s') rfl
        have p50_3 := (hnd.below (below_trans hB Bz)).at 3 (.slice x.A' x.l' x.c') rfl
        have p51_0 := (hnd'.below (below_trans hB Bz)).c0 (u := .bool y.s) rfl
        have p51_1 := (hnd'.below (below_trans hB Bz)).at 1 (.slice y.A y.l y.c) rfl
        have p51_2 := (hnd'.below (below_trans hB Bz)).at 2 (.bool y.s') rfl
        have p51_3 := (hnd'.below (below_trans hB Bz)).at 3 (.slice y.A' y.l' y.c') rfl
        go_wp2_with fail
        (try simp only [List.append_eq, List.cons_append, List.nil_append])
        refine wp_region_plan (.pure 0 (.take 1 (.pure 2 (.pure 3 (.take 4 (.pure 5 (.take 6 (.pure 7 (.pure 8 (.take 9 (.only 10 (.pure 11 .done)))))))))))) [] (fun w' => w'.cell? ⟨w.heap.size + 1, 2, none⟩ = some (.slice (some ⟨b, off, none⟩) q.on q.oc) ∧ w'.cell? ⟨w.heap.size + 1, 3, none⟩ = some (.slice (some ⟨b', off', none⟩) q.hn q.hc) ∧ w'.cell? ⟨b, off + i * 4, none⟩ = some (.bool x.s) ∧ w'.cell? ⟨b, off + i * 4 + 1, none⟩ = some (.slice x.A x.l x.c) ∧ w'.cell? ⟨b, off + i * 4 + 2, none⟩ = some (.bool x.s') ∧ w'.cell? ⟨b, off + i * 4 + 3, none⟩ = some (.slice x.A' x.l' x.c') ∧ w'.cell? ⟨b', off' + i * 4, none⟩ = some (.bool y.s) ∧ w'.cell? ⟨b', off' + i * 4 + 1, none⟩ = some (.slice y.A y.l y.c) ∧ w'.cell? ⟨b', off' + i * 4 + 2, none⟩ = some (.bool y.s') ∧ w'.cell? ⟨b', off' + i * 4 + 3, none⟩ = some (.slice y.A' y.l' y.c')) (by kernel_rfl) (by kernel_rfl) ⟨p1_2, p1_3, p50_0, p50_1, p50_2, p50_3, p51_0, p51_1, p51_2, p51_3⟩ ?_
        refine wpPlan_pure (o := ⟨some 43, _, _, _, _, _⟩) (v := ?_) rfl rfl (fun w' => ?_) ?_
        rotate_left
        · go_simp <;> with_reducible rfl
        try simp only [Act.put, List.setIfInBounds_toArray, List.set_cons_zero, List.set_cons_succ]
        refine wpPlan_take (o := ⟨some 44, _, _, _, _, _⟩) (v := ?_) rfl rfl (fun w' hS => ?_) ?_
        rotate_left
        · obtain ⟨p1_2, p1_3, p50_0, p50_1, p50_2, p50_3, p51_0, p51_1, p51_2, p51_3⟩ := hS; go_simp <;> with_reducible rfl
        try simp only [Act.put, List.setIfInBounds_toArray, List.set_cons_zero, List.set_cons_succ]
        refine wpPlan_pure (o := ⟨some 45, _, _, _, _, _⟩) (v := ?_) rfl rfl (fun w' => ?_) ?_
        rotate_left
        · go_simp <;> with_reducible rfl
        try simp only [Act.put, List.setIfInBounds_toArray, List.set_cons_zero, List.set_cons_succ]
        refine wpPlan_pure (o := ⟨some 46, _, _, _, _, _⟩) (v := ?_) rfl rfl (fun w' => ?_) ?_
        rotate_left
        · go_simp <;> with_reducible rfl
        try simp only [Act.put, List.setIfInBounds_toArray, List.set_cons_zero, List.set_cons_succ]
        refine wpPlan_take (o := ⟨some 47, _, _, _, _, _⟩) (v := ?_) rfl rfl (fun w' hS => ?_) ?_
        rotate_left
        · obtain ⟨p1_2, p1_3, p50_0, p50_1, p50_2, p50_3, p51_0, p51_1, p51_2, p51_3⟩ := hS; go_simp <;> with_reducible rfl
        try simp only [Act.put, List.setIfInBounds_toArray, List.set_cons_zero, List.set_cons_succ]
        refine wpPlan_pure (o := ⟨some 48, _, _, _, _, _⟩) (v := ?_) rfl rfl (fun w' => ?_) ?_
        rotate_left
        · go_simp <;> with_reducible rfl
        try simp only [Act.put, List.setIfInBounds_toArray, List.set_cons_zero, List.set_cons_succ]
        refine wpPlan_take (o := ⟨some 49, _, _, _, _, _⟩) (v := ?_) rfl rfl (fun w' hS => ?_) ?_
        rotate_left
        · obtain ⟨p1_2, p1_3, p50_0, p50_1, p50_2, p50_3, p51_0, p51_1, p51_2, p51_3⟩ := hS; go_simp <;> with_reducible rfl
        try simp only [Act.put, List.setIfInBounds_toArray, List.set_cons_zero, List.set_cons_succ]
        refine wpPlan_pure (o := ⟨some 50, _, _, _, _, _⟩) (v := ?_) rfl rfl (fun w' => ?_) ?_
        rotate_left
        · go_simp <;> with_reducible rfl
        try simp only [Act.put, List.setIfInBounds_toArray, List.set_cons_zero, List.set_cons_succ]
        refine wpPlan_pure (o := ⟨some 51, _, _, _, _, _⟩) (v := ?_) rfl rfl (fun w' => ?_) ?_
        rotate_left
        · go_simp <;> with_reducible rfl
        try simp only [Act.put, List.setIfInBounds_toArray, List.set_cons_zero, List.set_cons_succ]
        refine wpPlan_take (o := ⟨some 52, _, _, _, _, _⟩) (v := ?_) rfl rfl (fun w' hS => ?_) ?_
        rotate_left
        · obtain ⟨p1_2, p1_3, p50_0, p50_1, p50_2, p50_3, p51_0, p51_1, p51_2, p51_3⟩ := hS; go_simp <;> with_reducible rfl
        try simp only [Act.put, List.setIfInBounds_toArray, List.set_cons_zero, List.set_cons_succ]
        refine wpPlan_call (o := ⟨some 53, _, _, _, _, _⟩) rfl rfl (fun K hK => ?_)
        go_simp
        with_reducible refine (cmp_q ((hq.o.fr x (List.mem_of_getElem? HXI.out)).below (below_trans hB (below_trans (b := wr) Bz (by go_grown)))).r ((hq.h.fr y (List.mem_of_getElem? HYI.out)).below (below_trans hB (below_trans (b := wr) Bz (by go_grown)))).r (by omega) z HZZ).mono ?_
        rintro e w1 ⟨rfl, b1⟩
        replace b1 := below_trans (a := wr) (by go_grown) b1
        replace Bz := below_trans Bz b1
        clear b1
        clear p1_2 p1_3 p50_0 p50_1 p50_2 p50_3 p51_0 p51_1 p51_2 p51_3
        have p1_2 := (HX1.out.below Bz).cell 2 (.slice (some ⟨b, off, none⟩) q.on q.oc) rfl
        have p1_3 := (HX1.out.below Bz).cell 3 (.slice (some ⟨b', off', none⟩) q.hn q.hc) rfl
        have p50_0 := (hnd.below (below_trans hB Bz)).c0 (u := .bool x.s) rfl
        have p50_1 := (hnd.below (below_trans hB Bz)).at 1 (.slice x.A x.l x.c) rfl
        have p50_2 := (hnd.below (below_trans hB Bz)).at 2 (.bool x.s') rfl
        have p50_3 := (hnd.below (below_trans hB Bz)).at 3 (.slice x.A' x.l' x.c') rfl
        have p51_0 := (hnd'.below (below_trans hB Bz)).c0 (u := .bool y.s) rfl
        have p51_1 := (hnd'.below (below_trans hB Bz)).at 1 (.slice y.A y.l y.c) rfl
        have p51_2 := (hnd'.below (below_trans hB Bz)).at 2 (.bool y.s') rfl
        have p51_3 := (hnd'.below (below_trans hB Bz)).at 3 (.slice y.A' y.l' y.c') rfl
        refine hK.out _ _ ⟨p1_2, p1_3, p50_0, p50_1, p50_2, p50_3, p51_0, p51_1, p51_2, p51_3⟩ (fun _ => ?_)
        try simp only [Act.put, List.setIfInBounds_toArray, List.set_cons_zero, List.set_cons_succ]
        clear hK K
        refine wpPlan_pure (o := ⟨some 54, _, _, _, _, _⟩) (v := ?_) rfl rfl (fun w' => ?_) ?_
        rotate_left
        · go_simp <;> with_reducible rfl
        try simp only [Act.put, List.setIfInBounds_toArray, List.set_cons_zero, List.set_cons_succ]
        refine wpPlan_done ?_
        go_wp2_with fail
        go_ret
        have hF := below_trans (c := w1) hB Bz
        have HA : Hid (queryF (ni : Int) L q = 23) := Lib.hid (by unfold queryF; rw [HZ.out]; simp only; rw [if_neg (by rw [HOQ.out]; simp), if_neg HNM.out, if_pos (show boxB q = false from all_no HZI.out HP.out)])
        exact ⟨by rw [HA.out]; rfl, below_trans (below_trans hB Bz) (by go_grown)⟩
      · have HP : Hid (boxP (x, y) = true) := Lib.hid (by unfold boxP; simp only; rw [HZZ.out]; simpa using hz)
        have Bz := Below.refl wr.heap.size wr
        have p1_2 := (HX1.out.below Bz).cell 2 (.slice (some ⟨b, off, none⟩) q.on q.oc) rfl
        have p1_3 := (HX1.out.below Bz).cell 3 (.slice (some ⟨b', off', none⟩) q.hn q.hc) rfl
        have p50_0 := (hnd.below (below_trans hB Bz)).c0 (u := .bool x.s) rfl
        have p50_1 := (hnd.below (below_trans hB Bz)).at 1 (.slice x.A x.l x.c) rfl
        have p50_2 := (hnd.below (below_trans hB Bz)).at 2 (.bool x.s') rfl
        have p50_3 := (hnd.below (below_trans hB Bz)).at 3 (.slice x.A' x.l' x.c') rfl
        have p51_0 := (hnd'.below (below_trans hB Bz)).c0 (u := .bool y.s) rfl
        have p51_1 := (hnd'.below (below_trans hB Bz)).at 1 (.slice y.A y.l y.c) rfl
        have p51_2 := (hnd'.below (below_trans hB Bz)).at 2 (.bool y.s') rfl
        have p51_3 := (hnd'.below (below_trans hB Bz)).at 3 (.slice y.A' y.l' y.c') rfl
        go_wp2_with fail
        (try simp only [List.append_eq, List.cons_append, List.nil_append])
        refine wp_region_plan (.pure 0 (.take 1 (.pure 2 (.pure 3 (.take 4 (.pure 5 (.take 6 (.pure 7 (.pure 8 (.take 9 (.only 10 (.pure 11 .done)))))))))))) [] (fun w' => w'.cell? ⟨w.heap.size + 1, 2, none⟩ = some (.slice (some ⟨b, off, none⟩) q.on q.oc) ∧ w'.cell? ⟨w.heap.size + 1, 3, none⟩ = some (.slice (some ⟨b', off', none⟩) q.hn q.hc) ∧ w'.cell? ⟨b, off + i * 4, none⟩ = some (.bool x.s) ∧ w'.cell? ⟨b, off + i * 4 + 1, none⟩ = some (.slice x.A x.l x.c) ∧ w'.cell? ⟨b, off + i * 4 + 2, none⟩ = some (.bool x.s') ∧ w'.cell? ⟨b, off + i * 4 + 3, none⟩ = some (.slice x.A' x.l' x.c') ∧ w'.cell? ⟨b', off' + i * 4, none⟩ = some (.bool y.s) ∧ w'.cell? ⟨b', off' + i * 4 + 1, none⟩ = some (.slice y.A y.l y.c) ∧ w'.cell? ⟨b', off' + i * 4 + 2, none⟩ = some (.bool y.s') ∧ w'.cell? ⟨b', off' + i * 4 + 3, none⟩ = some (.slice y.A' y.l' y.c')) (by kernel_rfl) (by kernel_rfl) ⟨p1_2, p1_3, p50_0, p50_1, p50_2, p50_3, p51_0, p51_1, p51_2, p51_3⟩ ?_
        refine wpPlan_pure (o := ⟨some 43, _, _, _, _, _⟩) (v := ?_) rfl rfl (fun w' => ?_) ?_
        rotate_left
        · go_simp <;> with_reducible rfl
        try simp only [Act.put, List.setIfInBounds_toArray, List.set_cons_zero, List.set_cons_succ]
        refine wpPlan_take (o := ⟨some 44, _, _, _, _, _⟩) (v := ?_) rfl rfl (fun w' hS => ?_) ?_
        rotate_left
        · obtain ⟨p1_2, p1_3, p50_0, p50_1, p50_2, p50_3, p51_0, p51_1, p51_2, p51_3⟩ := hS; go_simp <;> with_reducible rfl
        try simp only [Act.put, List.setIfInBounds_toArray, List.set_cons_zero, List.set_cons_succ]
        refine wpPlan_pure (o := ⟨some 45, _, _, _, _, _⟩) (v := ?_) rfl rfl (fun w' => ?_) ?_
        rotate_left
        · go_simp <;> with_reducible rfl
        try simp only [Act.put, List.setIfInBounds_toArray, List.set_cons_zero, List.set_cons_succ]
        refine wpPlan_pure (o := ⟨some 46, _, _, _, _, _⟩) (v := ?_) rfl rfl (fun w' => ?_) ?_
        rotate_left
        · go_simp <;> with_reducible rfl
        try simp only [Act.put, List.setIfInBounds_toArray, List.set_cons_zero, List.set_cons_succ]
        refine wpPlan_take (o := ⟨some 47, _, _, _, _, _⟩) (v := ?_) rfl rfl (fun w' hS => ?_) ?_
        rotate_left
        · obtain ⟨p1_2, p1_3, p50_0, p50_1, p50_2, p50_3, p51_0, p51_1, p51_2, p51_3⟩ := hS; go_simp <;> with_reducible rfl
        try simp only [Act.put, List.setIfInBounds_toArray, List.set_cons_zero, List.set_cons_succ]
        refine wpPlan_pure (o := ⟨some 48, _, _, _, _, _⟩) (v := ?_) rfl rfl (fun w' => ?_) ?_
        rotate_left
        · go_simp <;> with_reducible rfl
        try simp only [Act.put, List.setIfInBounds_toArray, List.set_cons_zero, List.set_cons_succ]
        refine wpPlan_take (o := ⟨some 49, _, _, _, _, _⟩) (v := ?_) rfl rfl (fun w' hS => ?_) ?_
        rotate_left
        · obtain ⟨p1_2, p1_3, p50_0, p50_1, p50_2, p50_3, p51_0, p51_1, p51_2, p51_3⟩ := hS; go_simp <;> with_reducible rfl
        try simp only [Act.put, List.setIfInBounds_toArray, List.set_cons_zero, List.set_cons_succ]
        refine wpPlan_pure (o := ⟨some 50, _, _, _, _, _⟩) (v := ?_) rfl rfl (fun w' => ?_) ?_
        rotate_left
        · go_simp <;> with_reducible rfl
        try simp only [Act.put, List.setIfInBounds_toArray, List.set_cons_zero, List.set_cons_succ]
        refine wpPlan_pure (o := ⟨some 51, _, _, _, _, _⟩) (v := ?_) rfl rfl (fun w' => ?_) ?_
        rotate_left
        · go_simp <;> with_reducible rfl
        try simp only [Act.put, List.setIfInBounds_toArray, List.set_cons_zero, List.set_cons_succ]
        refine wpPlan_take (o := ⟨some 52, _, _, _, _, _⟩) (v := ?_) rfl rfl (fun w' hS => ?_) ?_
        rotate_left
        · obtain ⟨p1_2, p1_3, p50_0, p50_1, p50_2, p50_3, p51_0, p51_1, p51_2, p51_3⟩ := hS; go_simp <;> with_reducible rfl
        try simp only [Act.put, List.setIfInBounds_toArray, List.set_cons_zero, List.set_cons_succ]
        refine wpPlan_call (o := ⟨some 53, _, _, _, _, _⟩) rfl rfl (fun K hK => ?_)
        go_simp
        with_reducible refine (cmp_q ((hq.o.fr x (List.mem_of_getElem? HXI.out)).below (below_trans hB (below_trans (b := wr) Bz (by go_grown)))).r ((hq.h.fr y (List.mem_of_getElem? HYI.out)).below (below_trans hB (below_trans (b := wr) Bz (by go_grown)))).r (by omega) z HZZ).mono ?_
        rintro e w1 ⟨rfl, b1⟩
        replace b1 := below_trans (a := wr) (by go_grown) b1
        replace Bz := below_trans Bz b1
        clear b1
        clear p1_2 p1_3 p50_0 p50_1 p50_2 p50_3 p51_0 p51_1 p51_2 p51_3
        have p1_2 := (HX1.out.below Bz).cell 2 (.slice (some ⟨b, off, none⟩) q.on q.oc) rfl
        have p1_3 := (HX1.out.below Bz).cell 3 (.slice (some ⟨b', off', none⟩) q.hn q.hc) rfl
        have p50_0 := (hnd.below (below_trans hB Bz)).c0 (u := .bool x.s) rfl
        have p50_1 := (hnd.below (below_trans hB Bz)).at 1 (.slice x.A x.l x.c) rfl
        have p50_2 := (hnd.below (below_trans hB Bz)).at 2 (.bool x.s') rfl
        have p50_3 := (hnd.below (below_trans hB Bz)).at 3 (.slice x.A' x.l' x.c') rfl
        have p51_0 := (hnd'.below (below_trans hB Bz)).c0 (u := .bool y.s) rfl
        have p51_1 := (hnd'.below (below_trans hB Bz)).at 1 (.slice y.A y.l y.c) rfl
        have p51_2 := (hnd'.below (below_trans hB Bz)).at 2 (.bool y.s') rfl
        have p51_3 := (hnd'.below (below_trans hB Bz)).at 3 (.slice y.A' y.l' y.c') rfl
        refine hK.out _ _ ⟨p1_2, p1_3, p50_0, p50_1, p50_2, p50_3, p51_0, p51_1, p51_2, p51_3⟩ (fun _ => ?_)
        try simp only [Act.put, List.setIfInBounds_toArray, List.set_cons_zero, List.set_cons_succ]
        clear hK K
        refine wpPlan_pure (o := ⟨some 54, _, _, _, _, _⟩) (v := ?_) rfl rfl (fun w' => ?_) ?_
        rotate_left
        · go_simp <;> with_reducible rfl
        try simp only [Act.put, List.setIfInBounds_toArray, List.set_cons_zero, List.set_cons_succ]
        refine wpPlan_done ?_
        go_wp2_with fail
        go_roundg (ni - (i + 1))
        case measure => have := HGK.out; omega
        case rel => exact ⟨⟨i + 1, by omega, rfl, by go_num, below_trans (below_trans hB Bz) (by go_grown), (by have := HX1.out.below (below_trans Bz (by go_grown)); rwa [← HOA.out, ← HHA.out] at this), take_all HD.out HZI.out HP.out⟩, below_trans (below_trans hBW Bz) (by go_grown)⟩
    · obtain rfl : i = ni := by omega
      have i1 : ¬ (i : Int) < (i : Int) := by omega
      have HBX : Hid (boxB q = true) := Lib.hid (by have := all_yes HZL.out HD.out; exact this)
      obtain ⟨ub, uo, rfl, uel⟩ := HU.out.at ics_len (by omega) (by omega)
      obtain ⟨last, hla⟩ : ∃ x, l[nl]? = some x := ⟨l[nl]'(by rw [HLL.out]; omega), List.getElem?_eq_getElem _⟩
      have und : ElA w2 ub (uo + nl) (ics last) := by have := uel nl last hla; rwa [Nat.mul_one] at this
      have HLA : Hid (l.getLastD 0 = last) := Lib.hid (by rw [List.getLastD_eq_getLast?, List.getLast?_eq_getElem?, HLL.out, Nat.add_sub_cancel, hla]; rfl)
      clear uel hla
      by_cases hneg : q.label < 0
      · have hnd : decide (q.label < 0) = true := decide_eq_true hneg
        have HA : Hid (queryF (i : Int) L q = 24) := Lib.hid (by unfold queryF; rw [HZ.out]; simp only; rw [if_neg (by rw [HOQ.out]; simp), if_neg HNM.out, if_neg (by rw [HBX.out]; simp), if_pos hneg])
        have Bz := Below.refl wr.heap.size wr
        have p1_1 := (HX1.out.below Bz).cell 1 (.int .i64 q.label) rfl
        go_wp2_with fail
        have w0 : IntKind.i64.wrap (nl : Int) = (nl : Int) := IntWalk.i64_in _ (by omega)
        have w1' : (0 : Int) ≤ (nl : Int) := by omega
        have w2' : (nl : Int) < (nl : Int) + 1 := by omega
        (try simp only [List.append_eq, List.cons_append, List.nil_append])
        refine wp_region_plan (.pure 0 (.take 1 (.pure 2 (.pure 3 (.pure 4 (.take 5 (.pure 6 (.pure 7 (.pure 8 (.pure 9 (.pure 10 (.take 11 (.pure 12 (.pure 13 .done)))))))))))))) [] (fun w' => w'.cell? ⟨w.heap.size + 1, 1, none⟩ = some (.int .i64 q.label)) (by kernel_rfl) (by kernel_rfl) p1_1 ?_
        refine wpPlan_pure (o := ⟨some 56, _, _, _, _, _⟩) (v := ?_) rfl rfl (fun w' => ?_) ?_
        rotate_left
        · go_simp <;> with_reducible rfl
        try simp only [Act.put, List.setIfInBounds_toArray, List.set_cons_zero, List.set_cons_succ]
        refine wpPlan_take (o := ⟨some 57, _, _, _, _, _⟩) (v := ?_) rfl rfl (fun w' hS => ?_) ?_
        rotate_left
        · obtain p1_1 := hS; go_simp <;> with_reducible rfl
        try simp only [Act.put, List.setIfInBounds_toArray, List.set_cons_zero, List.set_cons_succ]
        refine wpPlan_pure (o := ⟨some 58, _, _, _, _, _⟩) (v := ?_) rfl rfl (fun w' => ?_) ?_
        rotate_left
        · go_simp <;> with_reducible rfl
        try simp only [Act.put, List.setIfInBounds_toArray, List.set_cons_zero, List.set_cons_succ]
        refine wpPlan_pure (o := ⟨some 59, _, _, _, _, _⟩) (v := ?_) rfl rfl (fun w' => ?_) ?_
        rotate_left
        · go_simp <;> with_reducible rfl
        try simp only [Act.put, List.setIfInBounds_toArray, List.set_cons_zero, List.set_cons_succ]
        refine wpPlan_pskip (o := ⟨some 60, _, _, _, _, _⟩) rfl rfl ?_
        try simp only [Act.put, List.setIfInBounds_toArray, List.set_cons_zero, List.set_cons_succ]
        refine wpPlan_skip (o := ⟨some 61, _, _, _, _, _⟩) rfl rfl ?_
        try simp only [Act.put, List.setIfInBounds_toArray, List.set_cons_zero, List.set_cons_succ]
        refine wpPlan_pskip (o := ⟨some 62, _, _, _, _, _⟩) rfl rfl ?_
        try simp only [Act.put, List.setIfInBounds_toArray, List.set_cons_zero, List.set_cons_succ]
        refine wpPlan_pskip (o := ⟨some 63, _, _, _, _, _⟩) rfl rfl ?_
        try simp only [Act.put, List.setIfInBounds_toArray, List.set_cons_zero, List.set_cons_succ]
        refine wpPlan_pskip (o := ⟨some 64, _, _, _, _, _⟩) rfl rfl ?_
        try simp only [Act.put, List.setIfInBounds_toArray, List.set_cons_zero, List.set_cons_succ]
        refine wpPlan_pskip (o := ⟨some 65, _, _, _, _, _⟩) rfl rfl ?_
        try simp only [Act.put, List.setIfInBounds_toArray, List.set_cons_zero, List.set_cons_succ]
        refine wpPlan_pskip (o := ⟨some 66, _, _, _, _, _⟩) rfl rfl ?_
        try simp only [Act.put, List.setIfInBounds_toArray, List.set_cons_zero, List.set_cons_succ]
        refine wpPlan_skip (o := ⟨some 67, _, _, _, _, _⟩) rfl rfl ?_
        try simp only [Act.put, List.setIfInBounds_toArray, List.set_cons_zero, List.set_cons_succ]
        refine wpPlan_pskip (o := ⟨some 68, _, _, _, _, _⟩) rfl rfl ?_
        try simp only [Act.put, List.setIfInBounds_toArray, List.set_cons_zero, List.set_cons_succ]
        refine wpPlan_pure (o := ⟨some 69, _, _, _, _, _⟩) (v := ?_) rfl rfl (fun w' => ?_) ?_
        rotate_left
        · go_simp <;> with_reducible rfl
        try simp only [Act.put, List.setIfInBounds_toArray, List.set_cons_zero, List.set_cons_succ]
        refine wpPlan_done ?_
        clear w0 w1' w2'
        go_wp2_with fail
        go_ret
        have hF := below_trans (c := wr) hB Bz
        exact ⟨by rw [HA.out]; rfl, below_trans (below_trans hB Bz) (by go_grown)⟩
      · have hnd : decide (q.label < 0) = false := decide_eq_false hneg
        by_cases hhi : last ≤ q.label
        · have HA : Hid (queryF (i : Int) L q = 24) := Lib.hid (by unfold queryF; rw [HZ.out]; simp only; rw [if_neg (by rw [HOQ.out]; simp), if_neg HNM.out, if_neg (by rw [HBX.out]; simp), if_neg hneg, if_pos (by rw [HLA.out]; exact hhi)])
          have Bz := Below.refl wr.heap.size wr
          have p1_1 := (HX1.out.below Bz).cell 1 (.int .i64 q.label) rfl
          have p50_0 := (und.below (below_trans hBW Bz)).c0 (u := .int .i64 last) rfl
          go_wp2_with fail
          have w0 : IntKind.i64.wrap (nl : Int) = (nl : Int) := IntWalk.i64_in _ (by omega)
          have w1' : (0 : Int) ≤ (nl : Int) := by omega
          have w2' : (nl : Int) < (nl : Int) + 1 := by omega
          (try simp only [List.append_eq, List.cons_append, List.nil_append])
          refine wp_region_plan (.pure 0 (.take 1 (.pure 2 (.pure 3 (.pure 4 (.take 5 (.pure 6 (.pure 7 (.pure 8 (.pure 9 (.pure 10 (.take 11 (.pure 12 (.pure 13 .done)))))))))))))) [] (fun w' => w'.cell? ⟨w.heap.size + 1, 1, none⟩ = some (.int .i64 q.label) ∧ w'.cell? ⟨ub, uo + nl, none⟩ = some (.int .i64 last)) (by kernel_rfl) (by kernel_rfl) ⟨p1_1, p50_0⟩ ?_
          refine wpPlan_pure (o := ⟨some 56, _, _, _, _, _⟩) (v := ?_) rfl rfl (fun w' => ?_) ?_
          rotate_left
          · go_simp <;> with_reducible rfl
          try simp only [Act.put, List.setIfInBounds_toArray, List.set_cons_zero, List.set_cons_succ]
          refine wpPlan_take (o := ⟨some 57, _, _, _, _, _⟩) (v := ?_) rfl rfl (fun w' hS => ?_) ?_
          rotate_left
          · obtain ⟨p1_1, p50_0⟩ := hS; go_simp <;> with_reducible rfl
          try simp only [Act.put, List.setIfInBounds_toArray, List.set_cons_zero, List.set_cons_succ]
          refine wpPlan_pure (o := ⟨some 58, _, _, _, _, _⟩) (v := ?_) rfl rfl (fun w' => ?_) ?_
          rotate_left
          · go_simp <;> with_reducible rfl
          try simp only [Act.put, List.setIfInBounds_toArray, List.set_cons_zero, List.set_cons_succ]
          refine wpPlan_pure (o := ⟨some 59, _, _, _, _, _⟩) (v := ?_) rfl rfl (fun w' => ?_) ?_
          rotate_left
          · go_simp <;> with_reducible rfl
          try simp only [Act.put, List.setIfInBounds_toArray, List.set_cons_zero, List.set_cons_succ]
          refine wpPlan_pure (o := ⟨some 60, _, _, _, _, _⟩) (v := ?_) rfl rfl (fun w' => ?_) ?_
          rotate_left
          · go_simp <;> with_reducible rfl
          try simp only [Act.put, List.setIfInBounds_toArray, List.set_cons_zero, List.set_cons_succ]
          refine wpPlan_take (o := ⟨some 61, _, _, _, _, _⟩) (v := ?_) rfl rfl (fun w' hS => ?_) ?_
          rotate_left
          · obtain ⟨p1_1, p50_0⟩ := hS; go_simp <;> with_reducible rfl
          try simp only [Act.put, List.setIfInBounds_toArray, List.set_cons_zero, List.set_cons_succ]
          refine wpPlan_pure (o := ⟨some 62, _, _, _, _, _⟩) (v := ?_) rfl rfl (fun w' => ?_) ?_
          rotate_left
          · go_simp <;> with_reducible rfl
          try simp only [Act.put, List.setIfInBounds_toArray, List.set_cons_zero, List.set_cons_succ]
          refine wpPlan_pure (o := ⟨some 63, _, _, _, _, _⟩) (v := ?_) rfl rfl (fun w' => ?_) ?_
          rotate_left
          · go_simp <;> with_reducible rfl
          try simp only [Act.put, List.setIfInBounds_toArray, List.set_cons_zero, List.set_cons_succ]
          refine wpPlan_pure (o := ⟨some 64, _, _, _, _, _⟩) (v := ?_) rfl rfl (fun w' => ?_) ?_
          rotate_left
          · go_simp <;> with_reducible rfl
          try simp only [Act.put, List.setIfInBounds_toArray, List.set_cons_zero, List.set_cons_succ]
          refine wpPlan_pure (o := ⟨some 65, _, _, _, _, _⟩) (v := ?_) rfl rfl (fun w' => ?_) ?_
          rotate_left
          · go_simp <;> with_reducible rfl
          try simp only [Act.put, List.setIfInBounds_toArray, List.set_cons_zero, List.set_cons_succ]
          refine wpPlan_pure (o := ⟨some 66, _, _, _, _, _⟩) (v := ?_) rfl rfl (fun w' => ?_) ?_
          rotate_left
          · go_simp <;> with_reducible rfl
          try simp only [Act.put, List.setIfInBounds_toArray, List.set_cons_zero, List.set_cons_succ]
          refine wpPlan_take (o := ⟨some 67, _, _, _, _, _⟩) (v := ?_) rfl rfl (fun w' hS => ?_) ?_
          rotate_left
          · obtain ⟨p1_1, p50_0⟩ := hS; go_simp <;> with_reducible rfl
          try simp only [Act.put, List.setIfInBounds_toArray, List.set_cons_zero, List.set_cons_succ]
          refine wpPlan_pure (o := ⟨some 68, _, _, _, _, _⟩) (v := ?_) rfl rfl (fun w' => ?_) ?_
          rotate_left
          · go_simp <;> with_reducible rfl
          try simp only [Act.put, List.setIfInBounds_toArray, List.set_cons_zero, List.set_cons_succ]
          refine wpPlan_pure (o := ⟨some 69, _, _, _, _, _⟩) (v := ?_) rfl rfl (fun w' => ?_) ?_
          rotate_left
          · go_simp <;> with_reducible rfl
          try simp only [Act.put, List.setIfInBounds_toArray, List.set_cons_zero, List.set_cons_succ]
          refine wpPlan_done ?_
          clear w0 w1' w2'
          go_wp2_with fail
          go_ret
          have hF := below_trans (c := wr) hB Bz
          exact ⟨by rw [HA.out]; rfl, below_trans (below_trans hB Bz) (by go_grown)⟩
        · have HA : Hid (queryF (i : Int) L q = 0) := Lib.hid (by unfold queryF; rw [HZ.out]; simp only; rw [if_neg (by rw [HOQ.out]; simp), if_neg HNM.out, if_neg (by rw [HBX.out]; simp), if_neg hneg, if_neg (by rw [HLA.out]; exact hhi)])
          have Bz := Below.refl wr.heap.size wr
          have p1_1 := (HX1.out.below Bz).cell 1 (.int .i64 q.label) rfl
          have p50_0 := (und.below (below_trans hBW Bz)).c0 (u := .int .i64 last) rfl
          go_wp2_with fail
          have w0 : IntKind.i64.wrap (nl : Int) = (nl : Int) := IntWalk.i64_in _ (by omega)
          have w1' : (0 : Int) ≤ (nl : Int) := by omega
          have w2' : (nl : Int) < (nl : Int) + 1 := by omega
          (try simp only [List.append_eq, List.cons_append, List.nil_append])
          refine wp_region_plan (.pure 0 (.take 1 (.pure 2 (.pure 3 (.pure 4 (.take 5 (.pure 6 (.pure 7 (.pure 8 (.pure 9 (.pure 10 (.take 11 (.pure 12 (.pure 13 .done)))))))))))))) [] (fun w' => w'.cell? ⟨w.heap.size + 1, 1, none⟩ = some (.int .i64 q.label) ∧ w'.cell? ⟨ub, uo + nl, none⟩ = some (.int .i64 last)) (by kernel_rfl) (by kernel_rfl) ⟨p1_1, p50_0⟩ ?_
          refine wpPlan_pure (o := ⟨some 56, _, _, _, _, _⟩) (v := ?_) rfl rfl (fun w' => ?_) ?_
          rotate_left
          · go_simp <;> with_reducible rfl
          try simp only [Act.put, List.setIfInBounds_toArray, List.set_cons_zero, List.set_cons_succ]
          refine wpPlan_take (o := ⟨some 57, _, _, _, _, _⟩) (v := ?_) rfl rfl (fun w' hS => ?_) ?_
          rotate_left
          · obtain ⟨p1_1, p50_0⟩ := hS; go_simp <;> with_reducible rfl
          try simp only [Act.put, List.setIfInBounds_toArray, List.set_cons_zero, List.set_cons_succ]
          refine wpPlan_pure (o := ⟨some 58, _, _, _, _, _⟩) (v := ?_) rfl rfl (fun w' => ?_) ?_
          rotate_left
          · go_simp <;> with_reducible rfl
          try simp only [Act.put, List.setIfInBounds_toArray, List.set_cons_zero, List.set_cons_succ]
          refine wpPlan_pure (o := ⟨some 59, _, _, _, _, _⟩) (v := ?_) rfl rfl (fun w' => ?_) ?_
          rotate_left
          · go_simp <;> with_reducible rfl
          try simp only [Act.put, List.setIfInBounds_toArray, List.set_cons_zero, List.set_cons_succ]
          refine wpPlan_pure (o := ⟨some 60, _, _, _, _, _⟩) (v := ?_) rfl rfl (fun w' => ?_) ?_
          rotate_left
          · go_simp <;> with_reducible rfl
          try simp only [Act.put, List.setIfInBounds_toArray, List.set_cons_zero, List.set_cons_succ]
          refine wpPlan_take (o := ⟨some 61, _, _, _, _, _⟩) (v := ?_) rfl rfl (fun w' hS => ?_) ?_
          rotate_left
          · obtain ⟨p1_1, p50_0⟩ := hS; go_simp <;> with_reducible rfl
          try simp only [Act.put, List.setIfInBounds_toArray, List.set_cons_zero, List.set_cons_succ]
          refine wpPlan_pure (o := ⟨some 62, _, _, _, _, _⟩) (v := ?_) rfl rfl (fun w' => ?_) ?_
          rotate_left
          · go_simp <;> with_reducible rfl
          try simp only [Act.put, List.setIfInBounds_toArray, List.set_cons_zero, List.set_cons_succ]
          refine wpPlan_pure (o := ⟨some 63, _, _, _, _, _⟩) (v := ?_) rfl rfl (fun w' => ?_) ?_
          rotate_left
          · go_simp <;> with_reducible rfl
          try simp only [Act.put, List.setIfInBounds_toArray, List.set_cons_zero, List.set_cons_succ]
          refine wpPlan_pure (o := ⟨some 64, _, _, _, _, _⟩) (v := ?_) rfl rfl (fun w' => ?_) ?_
          rotate_left
          · go_simp <;> with_reducible rfl
          try simp only [Act.put, List.setIfInBounds_toArray, List.set_cons_zero, List.set_cons_succ]
          refine wpPlan_pure (o := ⟨some 65, _, _, _, _, _⟩) (v := ?_) rfl rfl (fun w' => ?_) ?_
          rotate_left
          · go_simp <;> with_reducible rfl
          try simp only [Act.put, List.setIfInBounds_toArray, List.set_cons_zero, List.set_cons_succ]
          refine wpPlan_pure (o := ⟨some 66, _, _, _, _, _⟩) (v := ?_) rfl rfl (fun w' => ?_) ?_
          rotate_left
          · go_simp <;> with_reducible rfl
          try simp only [Act.put, List.setIfInBounds_toArray, List.set_cons_zero, List.set_cons_succ]
          refine wpPlan_take (o := ⟨some 67, _, _, _, _, _⟩) (v := ?_) rfl rfl (fun w' hS => ?_) ?_
          rotate_left
          · obtain ⟨p1_1, p50_0⟩ := hS; go_simp <;> with_reducible rfl
          try simp only [Act.put, List.setIfInBounds_toArray, List.set_cons_zero, List.set_cons_succ]
          refine wpPlan_pure (o := ⟨some 68, _, _, _, _, _⟩) (v := ?_) rfl rfl (fun w' => ?_) ?_
          rotate_left
          · go_simp <;> with_reducible rfl
          try simp only [Act.put, List.setIfInBounds_toArray, List.set_cons_zero, List.set_cons_succ]
          refine wpPlan_pure (o := ⟨some 69, _, _, _, _, _⟩) (v := ?_) rfl rfl (fun w' => ?_) ?_
          rotate_left
          · go_simp <;> with_reducible rfl
          try simp only [Act.put, List.setIfInBounds_toArray, List.set_cons_zero, List.set_cons_succ]
          refine wpPlan_done ?_
          clear w0 w1' w2'
          go_wp2_with fail
          go_ret
          have hF := below_trans (c := wr) hB Bz
          exact ⟨by rw [HA.out]; rfl, below_trans (below_trans hB Bz) (by go_grown)⟩
set_option maxRecDepth 100000 in
set_option maxHeartbeats 4000000 in
theorem query_m2 {w : World} {m : Nat} {ni : Nat} {lA : Option Addr} {ln lc : Nat} {L : List Ly} {q : Qy} (h : Sl Ly.cs 13 w lA ln lc L) (hok : Hid (∀ y ∈ L, LyOk w m y)) (hm : m ≤ 20000) (hln : ln ≤ 9223372036854775807) (hq : QyOk w m q) {l : List Int} (HZ : Hid (sizesF (ni : Int) L = .ok l)) (HO : Hid ([q.x, q.o, q.h].all (okV (ni : Int)) = true)) (n1 : (q.norm != 1) = true) (n2 : (q.norm != 2) = false) (HOQ : Hid (okQ (ni : Int) q = true)) (HNM : Hid (¬ (q.norm ≠ 1 ∧ q.norm ≠ 2))) (hT : Hid (Tab w)) :
    Calls Tryd.prog 14 #[.agg #[.int .i64 (ni : Int), .slice lA ln lc], .agg #[.slice q.xA q.xn q.xc, .int .i64 q.label, .slice q.oA q.on q.oc, .slice q.hA q.hn q.hc, .int .u8 q.norm]] w fun e w' => e = .returned (.int .i64 (queryF (ni : Int) L q)) ∧ Below w.heap.size w w' := by
  have hql : q.xn ≤ 100000 ∧ q.on ≤ 100000 ∧ q.hn ≤ 100000 := ⟨hq.x.2.2, hq.o.2.2, hq.h.2.2⟩
  obtain ⟨W, hW, x0, x1, hB⟩ := boxes2 w #[.int .i64 (ni : Int), .slice lA ln lc] 30 #[.slice q.xA q.xn q.xc, .int .i64 q.label, .slice q.oA q.on q.oc, .slice q.hA q.hn q.hc, .int .u8 q.norm] 47
  have HX0 := Lib.hid x0
  have HX1 := Lib.hid x1
  clear x0 x1
  have Bz := Below.refl W.heap.size W
  have p0_0 := (HX0.out.below Bz).cell 0 (.int .i64 (ni : Int)) rfl
  have p0_1 := (HX0.out.below Bz).cell 1 (.slice lA ln lc) rfl
  go_enter Tryd.func14, Tryd.ntmps14
  go_wp2_with fail
  rw [← hW]
  clear hW
  go_wp2_with fail
  with_reducible refine ((sizes_q (h.below (below_trans hB (below_trans (b := W) Bz (by go_grown)))) (Lib.hid fun y hy => (hok.out y hy).below (below_trans hB (below_trans (b := W) Bz (by go_grown)))) hm hln (Lib.hid (Tab.below hT.out (below_trans hB (below_trans (b := W) Bz (by go_grown)))))).mono fun _ _ hx => TellsZs.ok hx HZ.out).mono ?_
  rintro e w1 ⟨A1, n1, c1, rfl, h1, hc1, b1⟩
  replace b1 := below_trans (a := W) (by go_grown) b1
  replace Bz := below_trans Bz b1
  clear b1
  clear p0_0 p0_1
  have p1_0 := (HX1.out.below Bz).cell 0 (.slice q.xA q.xn q.xc) rfl
  have p1_2 := (HX1.out.below Bz).cell 2 (.slice q.oA q.on q.oc) rfl
  have p1_3 := (HX1.out.below Bz).cell 3 (.slice q.hA q.hn q.hc) rfl
  go_wp2_with fail
  obtain ⟨V1, hW, x2, hN⟩ := boxes1 w1 #[.slice q.xA q.xn q.xc, .slice q.oA q.on q.oc, .slice q.hA q.hn q.hc] 35
  rw [← hW]
  clear hW
  obtain ⟨v2, hb2⟩ : ∃ b, b = w1.heap.size := ⟨_, rfl⟩
  rw [← hb2] at x2 ⊢
  have o0_2 : w.heap.size < v2 := by have := (HX0.out.below Bz).lt; omega
  have o1_2 : w.heap.size + 1 < v2 := by have := (HX1.out.below Bz).lt; omega
  have ow_2 : w.heap.size ≤ v2 := by have := hB.size; have := Bz.size; omega
  replace h1 := h1.below hN
  replace hB := below_trans (below_trans hB Bz) hN
  replace HX0 := Lib.hid ((HX0.out.below Bz).below hN)
  replace HX1 := Lib.hid ((HX1.out.below Bz).below hN)
  have HX2 := Lib.hid x2
  clear x2 hN Bz hb2
  have Bz := Below.refl V1.heap.size V1
  clear p1_0 p1_2 p1_3
  with_reducible refine (all_rats (fvs_sl [q.x, q.o, q.h] (HX2.out.below (below_trans Bz (by go_grown))) 3 rfl) (Lib.hid fun v hv => by simp at hv; rcases hv with rfl | rfl | rfl; exact hq.x.below (below_trans hB (below_trans (b := V1) Bz (by go_grown))); exact hq.o.below (below_trans hB (below_trans (b := V1) Bz (by go_grown))); exact hq.h.below (below_trans hB (below_trans (b := V1) Bz (by go_grown)))) hm (by omega) (HX0.out.below (below_trans Bz (by go_grown))) true HO (Lib.hid (Tab.below hT.out (below_trans hB (below_trans (b := V1) Bz (by go_grown)))))).mono ?_
  rintro e w2 ⟨rfl, b2⟩
  replace b2 := below_trans (a := V1) (by go_grown) b2
  replace h1 := h1.below b2
  replace Bz := below_trans Bz b2
  clear b2
  have p0_0 := (HX0.out.below Bz).cell 0 (.int .i64 (ni : Int)) rfl
  have p1_4 := (HX1.out.below Bz).cell 4 (.int .u8 q.norm) rfl
  go_wp2_with fail
  have hin := sizes_steps HZ.out
  have hst := steps_ok hin.2.2.2
  have hon : q.on = ni ∧ q.hn = ni := by
    have := HOQ.out
    simp only [okQ, okV, Bool.and_eq_true, decide_eq_true_eq] at this
    obtain ⟨_, ⟨h1, _⟩, h2, _⟩ := this
    simp only [Qy.o] at h1
    simp only [Qy.h] at h2
    omega
  have HOL : Hid (q.O.length = ni) := Lib.hid (hq.o.1.1.trans hon.1)
  have HHL : Hid (q.H.length = ni) := Lib.hid (hq.h.1.1.trans hon.2)
  have hon2 : q.on ≤ ni ∧ ni ≤ q.on ∧ q.hn ≤ ni ∧ ni ≤ q.hn := by omega
  clear hon
  have HZL : Hid ((q.O.zip q.H).length = ni) := Lib.hid (by rw [List.length_zip, HOL.out, HHL.out]; exact Nat.min_self _)
  have HQO : Hid (Sl Fr.cs 4 w q.oA q.on q.oc q.O) := Lib.hid hq.o.1
  have HQH : Hid (Sl Fr.cs 4 w q.hA q.hn q.hc q.H) := Lib.hid hq.h.1
  have HB1 := Lib.hid (below_trans hB Bz)
  have XX1 := Lib.hid (HX1.out.below Bz)
  have HU := Lib.hid h1
  obtain ⟨nl, rfl⟩ : ∃ nl, n1 = nl + 1 := ⟨L.length, h1.1.symm.trans hst.1⟩
  have HLL : Hid (l.length = nl + 1) := Lib.hid h1.1
  have hnl : nl ≤ 16 := by have h1 := hst.1; have h2 := HLL.out; have h3 := hin.2.2.1; omega
  have hnm : ni ≤ 64 := by have := hin.2.1; omega
  clear hB Bz HX0 HX1 HX2 h1 hst hin
  go_loopg [40] ni (fun gk s wr => QU1 w #[.slice q.xA q.xn q.xc, .int .i64 q.label, .slice q.oA q.on q.oc, .slice q.hA q.hn q.hc, .int .u8 q.norm] (q.O.zip q.H) ni gk s wr ∧ Below w2.heap.size w2 wr)
  case atStart => exact ⟨⟨0, Nat.zero_le _, rfl, rfl, HB1.out, XX1.out, by simp⟩, Below.refl _ _⟩
  case round =>
    clear HB1 XX1
    obtain ⟨⟨i, hi, hgk, rfl, hB, hx1, hd⟩, hBW⟩ := hrel
    have HGK := Lib.hid hgk
    have HD := Lib.hid hd
    have HX1 := Lib.hid hx1
    clear hgk hd hx1
    by_cases hlt : i < ni
    · obtain ⟨b, off, hoA, hel⟩ := HQO.out.at Fr.cs_len (by omega) (by omega)
      obtain ⟨b', off', hhA, hel'⟩ := HQH.out.at Fr.cs_len (by omega) (by omega)
      rw [hoA, hhA] at HX1
      obtain ⟨x, hx⟩ : ∃ x, q.O[i]? = some x := ⟨q.O[i]'(by rw [HOL.out]; exact hlt), List.getElem?_eq_getElem _⟩
      obtain ⟨y, hy⟩ : ∃ y, q.H[i]? = some y := ⟨q.H[i]'(by rw [HHL.out]; exact hlt), List.getElem?_eq_getElem _⟩
      have hnd := hel i x hx
      have hnd' := hel' i y hy
      have HZI : Hid ((q.O.zip q.H)[i]? = some (x, y)) := Lib.hid (by rw [List.getElem?_zip_eq_some]; exact ⟨hx, hy⟩)
      have HXI := Lib.hid hx
      have HYI := Lib.hid hy
      have HOA := Lib.hid hoA
      have HHA := Lib.hid hhA
      have i1 : (i : Int) < (ni : Int) := by omega
      have i2 : (0 : Int) ≤ (i : Int) := by omega
      have i3 : (i : Int) < (q.on : Int) := by omega
      have i4 : (i : Int) < (q.hn : Int) := by omega
      obtain ⟨z, HZZ⟩ : ∃ z, Hid (cmpQ x.q y.q = z) := ⟨_, Lib.hid rfl⟩
      clear hx hel hy hel' hoA hhA
      by_cases hz : 0 < z
      · have HP : Hid (boxP (x, y) = false) := Lib.hid (by unfold boxP; simp only; rw [HZZ.out]; simpa using hz)
        have Bz := Below.refl wr.heap.size wr
        have p1_2 := (HX1.out.below Bz).cell 2 (.slice (some ⟨b, off, none⟩) q.on q.oc) rfl
        have p1_3 := (HX1.out.below Bz).cell 3 (.slice (some ⟨b', off', none⟩) q.hn q.hc) rfl
        have p50_0 := (hnd.below (below_trans hB Bz)).c0 (u := .bool x.s) rfl
        have p50_1 := (hnd.below (below_trans hB Bz)).at 1 (.slice x.A x.l x.c) rfl
        have p50_2 := (hnd.below (below_trans hB Bz)).at 2 (.bool x.s') rfl
        have p50_3 := (hnd.below (below_trans hB Bz)).at 3 (.slice x.A' x.l' x.c') rfl
        have p51_0 := (hnd'.below (below_trans hB Bz)).c0 (u := .bool y.s) rfl
        have p51_1 := (hnd'.below (below_trans hB Bz)).at 1 (.slice y.A y.l y.c) rfl
        have p51_2 := (hnd'.below (below_trans hB Bz)).at 2 (.bool y.s') rfl
        have p51_3 := (hnd'.below (below_trans hB Bz)).at 3 (.slice y.A' y.l' y.c') rfl
        go_wp2_with fail
        (try simp only [List.append_eq, List.cons_append, List.nil_append])
        refine wp_region_plan (.pure 0 (.take 1 (.pure 2 (.pure 3 (.take 4 (.pure 5 (.take 6 (.pure 7 (.pure 8 (.take 9 (.only 10 (.pure 11 .done)))))))))))) [] (fun w' => w'.cell? ⟨w.heap.size + 1, 2, none⟩ = some (.slice (some ⟨b, off, none⟩) q.on q.oc) ∧ w'.cell? ⟨w.heap.size + 1, 3, none⟩ = some (.slice (some ⟨b', off', none⟩) q.hn q.hc) ∧ w'.cell? ⟨b, off + i * 4, none⟩ = some (.bool x.s) ∧ w'.cell? ⟨b, off + i * 4 + 1, none⟩ = some (.slice x.A x.l x.c) ∧ w'.cell? ⟨b, off + i * 4 + 2, none⟩ = some (.bool x.s') ∧ w'.cell? ⟨b, off + i * 4 + 3, none⟩ = some (.slice x.A' x.l' x.c') ∧ w'.cell? ⟨b', off' + i * 4, none⟩ = some (.bool y.s) ∧ w'.cell? ⟨b', off' + i * 4 + 1, none⟩ = some (.slice y.A y.l y.c) ∧ w'.cell? ⟨b', off' + i * 4 + 2, none⟩ = some (.bool y.s') ∧ w'.cell? ⟨b', off' + i * 4 + 3, none⟩ = some (.slice y.A' y.l' y.c')) (by kernel_rfl) (by kernel_rfl) ⟨p1_2, p1_3, p50_0, p50_1, p50_2, p50_3, p51_0, p51_1, p51_2, p51_3⟩ ?_
        refine wpPlan_pure (o := ⟨some 43, _, _, _, _, _⟩) (v := ?_) rfl rfl (fun w' => ?_) ?_
        rotate_left
        · go_simp <;> with_reducible rfl
        try simp only [Act.put, List.setIfInBounds_toArray, List.set_cons_zero, List.set_cons_succ]
        refine wpPlan_take (o := ⟨some 44, _, _, _, _, _⟩) (v := ?_) rfl rfl (fun w' hS => ?_) ?_
        rotate_left
        · obtain ⟨p1_2, p1_3, p50_0, p50_1, p50_2, p50_3, p51_0, p51_1, p51_2, p51_3⟩ := hS; go_simp <;> with_reducible rfl
        try simp only [Act.put, List.setIfInBounds_toArray, List.set_cons_zero, List.set_cons_succ]
        refine wpPlan_pure (o := ⟨some 45, _, _, _, _, _⟩) (v := ?_) rfl rfl (fun w' => ?_) ?_
        rotate_left
        · go_simp <;> with_reducible rfl
        try simp only [Act.put, List.setIfInBounds_toArray, List.set_cons_zero, List.set_cons_succ]
        refine wpPlan_pure (o := ⟨some 46, _, _, _, _, _⟩) (v := ?_) rfl rfl (fun w' => ?_) ?_
        rotate_left
        · go_simp <;> with_reducible rfl
        try simp only [Act.put, List.setIfInBounds_toArray, List.set_cons_zero, List.set_cons_succ]
        refine wpPlan_take (o := ⟨some 47, _, _, _, _, _⟩) (v := ?_) rfl rfl (fun w' hS => ?_) ?_
        rotate_left
        · obtain ⟨p1_2, p1_3, p50_0, p50_1, p50_2, p50_3, p51_0, p51_1, p51_2, p51_3⟩ := hS; go_simp <;> with_reducible rfl
        try simp only [Act.put, List.setIfInBounds_toArray, List.set_cons_zero, List.set_cons_succ]
        refine wpPlan_pure (o := ⟨some 48, _, _, _, _, _⟩) (v := ?_) rfl rfl (fun w' => ?_) ?_
        rotate_left
        · go_simp <;> with_reducible rfl
        try simp only [Act.put, List.setIfInBounds_toArray, List.set_cons_zero, List.set_cons_succ]
        refine wpPlan_take (o := ⟨some 49, _, _, _, _, _⟩) (v := ?_) rfl rfl (fun w' hS => ?_) ?_
        rotate_left
        · obtain ⟨p1_2, p1_3, p50_0, p50_1, p50_2, p50_3, p51_0, p51_1, p51_2, p51_3⟩ := hS; go_simp <;> with_reducible rfl
        try simp only [Act.put, List.setIfInBounds_toArray, List.set_cons_zero, List.set_cons_succ]
        refine wpPlan_pure (o := ⟨some 50, _, _, _, _, _⟩) (v := ?_) rfl rfl (fun w' => ?_) ?_
        rotate_left
        · go_simp <;> with_reducible rfl
        try simp only [Act.put, List.setIfInBounds_toArray, List.set_cons_zero, List.set_cons_succ]
        refine wpPlan_pure (o := ⟨some 51, _, _, _, _, _⟩) (v := ?_) rfl rfl (fun w' => ?_) ?_
        rotate_left
        · go_simp <;> with_reducible rfl
        try simp only [Act.put, List.setIfInBounds_toArray, List.set_cons_zero, List.set_cons_succ]
        refine wpPlan_take (o := ⟨some 52, _, _, _, _, _⟩) (v := ?_) rfl rfl (fun w' hS => ?_) ?_
        rotate_left
        · obtain ⟨p1_2, p1_3, p50_0, p50_1, p50_2, p50_3, p51_0, p51_1, p51_2, p51_3⟩ := hS; go_simp <;> with_reducible rfl
        try simp only [Act.put, List.setIfInBounds_toArray, List.set_cons_zero, List.set_cons_succ]
        refine wpPlan_call (o := ⟨some 53, _, _, _, _, _⟩) rfl rfl (fun K hK => ?_)
        go_simp
        with_reducible refine (cmp_q ((hq.o.fr x (List.mem_of_getElem? HXI.out)).below (below_trans hB (below_trans (b := wr) Bz (by go_grown)))).r ((hq.h.fr y (List.mem_of_getElem? HYI.out)).below (below_trans hB (below_trans (b := wr) Bz (by go_grown)))).r (by omega) z HZZ).mono ?_
        rintro e w1 ⟨rfl, b1⟩
        replace b1 := below_trans (a := wr) (by go_grown) b1
        replace Bz := below_trans Bz b1
        clear b1
        clear p1_2 p1_3 p50_0 p50_1 p50_2 p50_3 p51_0 p51_1 p51_2 p51_3
        have p1_2 := (HX1.out.below Bz).cell 2 (.slice (some ⟨b, off, none⟩) q.on q.oc) rfl
        have p1_3 := (HX1.out.below Bz).cell 3 (.slice (some ⟨b', off', none⟩) q.hn q.hc) rfl
        have p50_0 := (hnd.below (below_trans hB Bz)).c0 (u := .bool x.s) rfl
        have p50_1 := (hnd.below (below_trans hB Bz)).at 1 (.slice x.A x.l x.c) rfl
        have p50_2 := (hnd.below (below_trans hB Bz)).at 2 (.bool x.s') rfl
        have p50_3 := (hnd.below (below_trans hB Bz)).at 3 (.slice x.A' x.l' x.c') rfl
        have p51_0 := (hnd'.below (below_trans hB Bz)).c0 (u := .bool y.s) rfl
        have p51_1 := (hnd'.below (below_trans hB Bz)).at 1 (.slice y.A y.l y.c) rfl
        have p51_2 := (hnd'.below (below_trans hB Bz)).at 2 (.bool y.s') rfl
        have p51_3 := (hnd'.below (below_trans hB Bz)).at 3 (.slice y.A' y.l' y.c') rfl
        refine hK.out _ _ ⟨p1_2, p1_3, p50_0, p50_1, p50_2, p50_3, p51_0, p51_1, p51_2, p51_3⟩ (fun _ => ?_)
        try simp only [Act.put, List.setIfInBounds_toArray, List.set_cons_zero, List.set_cons_succ]
        clear hK K
        refine wpPlan_pure (o := ⟨some 54, _, _, _, _, _⟩) (v := ?_) rfl rfl (fun w' => ?_) ?_
        rotate_left
        · go_simp <;> with_reducible rfl
        try simp only [Act.put, List.setIfInBounds_toArray, List.set_cons_zero, List.set_cons_succ]
        refine wpPlan_done ?_
        go_wp2_with fail
        go_ret
        have hF := below_trans (c := w1) hB Bz
        have HA : Hid (queryF (ni : Int) L q = 23) := Lib.hid (by unfold queryF; rw [HZ.out]; simp only; rw [if_neg (by rw [HOQ.out]; simp), if_neg HNM.out, if_pos (show boxB q = false from all_no HZI.out HP.out)])
        exact ⟨by rw [HA.out]; rfl, below_trans (below_trans hB Bz) (by go_grown)⟩
      · have HP : Hid (boxP (x, y) = true) := Lib.hid (by unfold boxP; simp only; rw [HZZ.out]; simpa using hz)
        have Bz := Below.refl wr.heap.size wr
        have p1_2 := (HX1.out.below Bz).cell 2 (.slice (some ⟨b, off, none⟩) q.on q.oc) rfl
        have p1_3 := (HX1.out.below Bz).cell 3 (.slice (some ⟨b', off', none⟩) q.hn q.hc) rfl
        have p50_0 := (hnd.below (below_trans hB Bz)).c0 (u := .bool x.s) rfl
        have p50_1 := (hnd.below (below_trans hB Bz)).at 1 (.slice x.A x.l x.c) rfl
        have p50_2 := (hnd.below (below_trans hB Bz)).at 2 (.bool x.s') rfl
        have p50_3 := (hnd.below (below_trans hB Bz)).at 3 (.slice x.A' x.l' x.c') rfl
        have p51_0 := (hnd'.below (below_trans hB Bz)).c0 (u := .bool y.s) rfl
        have p51_1 := (hnd'.below (below_trans hB Bz)).at 1 (.slice y.A y.l y.c) rfl
        have p51_2 := (hnd'.below (below_trans hB Bz)).at 2 (.bool y.s') rfl
        have p51_3 := (hnd'.below (below_trans hB Bz)).at 3 (.slice y.A' y.l' y.c') rfl
        go_wp2_with fail
        (try simp only [List.append_eq, List.cons_append, List.nil_append])
        refine wp_region_plan (.pure 0 (.take 1 (.pure 2 (.pure 3 (.take 4 (.pure 5 (.take 6 (.pure 7 (.pure 8 (.take 9 (.only 10 (.pure 11 .done)))))))))))) [] (fun w' => w'.cell? ⟨w.heap.size + 1, 2, none⟩ = some (.slice (some ⟨b, off, none⟩) q.on q.oc) ∧ w'.cell? ⟨w.heap.size + 1, 3, none⟩ = some (.slice (some ⟨b', off', none⟩) q.hn q.hc) ∧ w'.cell? ⟨b, off + i * 4, none⟩ = some (.bool x.s) ∧ w'.cell? ⟨b, off + i * 4 + 1, none⟩ = some (.slice x.A x.l x.c) ∧ w'.cell? ⟨b, off + i * 4 + 2, none⟩ = some (.bool x.s') ∧ w'.cell? ⟨b, off + i * 4 + 3, none⟩ = some (.slice x.A' x.l' x.c') ∧ w'.cell? ⟨b', off' + i * 4, none⟩ = some (.bool y.s) ∧ w'.cell? ⟨b', off' + i * 4 + 1, none⟩ = some (.slice y.A y.l y.c) ∧ w'.cell? ⟨b', off' + i * 4 + 2, none⟩ = some (.bool y.s') ∧ w'.cell? ⟨b', off' + i * 4 + 3, none⟩ = some (.slice y.A' y.l' y.c')) (by kernel_rfl) (by kernel_rfl) ⟨p1_2, p1_3, p50_0, p50_1, p50_2, p50_3, p51_0, p51_1, p51_2, p51_3⟩ ?_
        refine wpPlan_pure (o := ⟨some 43, _, _, _, _, _⟩) (v := ?_) rfl rfl (fun w' => ?_) ?_
        rotate_left
        · go_simp <;> with_reducible rfl
        try simp only [Act.put, List.setIfInBounds_toArray, List.set_cons_zero, List.set_cons_succ]
        refine wpPlan_take (o := ⟨some 44, _, _, _, _, _⟩) (v := ?_) rfl rfl (fun w' hS => ?_) ?_
        rotate_left
        · obtain ⟨p1_2, p1_3, p50_0, p50_1, p50_2, p50_3, p51_0, p51_1, p51_2, p51_3⟩ := hS; go_simp <;> with_reducible rfl
        try simp only [Act.put, List.setIfInBounds_toArray, List.set_cons_zero, List.set_cons_succ]
        refine wpPlan_pure (o := ⟨some 45, _, _, _, _, _⟩) (v := ?_) rfl rfl (fun w' => ?_) ?_
        rotate_left
        · go_simp <;> with_reducible rfl
        try simp only [Act.put, List.setIfInBounds_toArray, List.set_cons_zero, List.set_cons_succ]
        refine wpPlan_pure (o := ⟨some 46, _, _, _, _, _⟩) (v := ?_) rfl rfl (fun w' => ?_) ?_
        rotate_left
        · go_simp <;> with_reducible rfl
        try simp only [Act.put, List.setIfInBounds_toArray, List.set_cons_zero, List.set_cons_succ]
        refine wpPlan_take (o := ⟨some 47, _, _, _, _, _⟩) (v := ?_) rfl rfl (fun w' hS => ?_) ?_
        rotate_left
        · obtain ⟨p1_2, p1_3, p50_0, p50_1, p50_2, p50_3, p51_0, p51_1, p51_2, p51_3⟩ := hS; go_simp <;> with_reducible rfl
        try simp only [Act.put, List.setIfInBounds_toArray, List.set_cons_zero, List.set_cons_succ]
        refine wpPlan_pure (o := ⟨some 48, _, _, _, _, _⟩) (v := ?_) rfl rfl (fun w' => ?_) ?_
        rotate_left
        · go_simp <;> with_reducible rfl
        try simp only [Act.put, List.setIfInBounds_toArray, List.set_cons_zero, List.set_cons_succ]
        refine wpPlan_take (o := ⟨some 49, _, _, _, _, _⟩) (v := ?_) rfl rfl (fun w' hS => ?_) ?_
        rotate_left
        · obtain ⟨p1_2, p1_3, p50_0, p50_1, p50_2, p50_3, p51_0, p51_1, p51_2, p51_3⟩ := hS; go_simp <;> with_reducible rfl
        try simp only [Act.put, List.setIfInBounds_toArray, List.set_cons_zero, List.set_cons_succ]
        refine wpPlan_pure (o := ⟨some 50, _, _, _, _, _⟩) (v := ?_) rfl rfl (fun w' => ?_) ?_
        rotate_left
        · go_simp <;> with_reducible rfl
        try simp only [Act.put, List.setIfInBounds_toArray, List.set_cons_zero, List.set_cons_succ]
        refine wpPlan_pure (o := ⟨some 51, _, _, _, _, _⟩) (v := ?_) rfl rfl (fun w' => ?_) ?_
        rotate_left
        · go_simp <;> with_reducible rfl
        try simp only [Act.put, List.setIfInBounds_toArray, List.set_cons_zero, List.set_cons_succ]
        refine wpPlan_take (o := ⟨some 52, _, _, _, _, _⟩) (v := ?_) rfl rfl (fun w' hS => ?_) ?_
        rotate_left
        · obtain ⟨p1_2, p1_3, p50_0, p50_1, p50_2, p50_3, p51_0, p51_1, p51_2, p51_3⟩ := hS; go_simp <;> with_reducible rfl
        try simp only [Act.put, List.setIfInBounds_toArray, List.set_cons_zero, List.set_cons_succ]
        refine wpPlan_call (o := ⟨some 53, _, _, _, _, _⟩) rfl rfl (fun K hK => ?_)
        go_simp
        with_reducible refine (cmp_q ((hq.o.fr x (List.mem_of_getElem? HXI.out)).below (below_trans hB (below_trans (b := wr) Bz (by go_grown)))).r ((hq.h.fr y (List.mem_of_getElem? HYI.out)).below (below_trans hB (below_trans (b := wr) Bz (by go_grown)))).r (by omega) z HZZ).mono ?_
        rintro e w1 ⟨rfl, b1⟩
        replace b1 := below_trans (a := wr) (by go_grown) b1
        replace Bz := below_trans Bz b1
        clear b1
        clear p1_2 p1_3 p50_0 p50_1 p50_2 p50_3 p51_0 p51_1 p51_2 p51_3
        have p1_2 := (HX1.out.below Bz).cell 2 (.slice (some ⟨b, off, none⟩) q.on q.oc) rfl
        have p1_3 := (HX1.out.below Bz).cell 3 (.slice (some ⟨b', off', none⟩) q.hn q.hc) rfl
        have p50_0 := (hnd.below (below_trans hB Bz)).c0 (u := .bool x.s) rfl
        have p50_1 := (hnd.below (below_trans hB Bz)).at 1 (.slice x.A x.l x.c) rfl
        have p50_2 := (hnd.below (below_trans hB Bz)).at 2 (.bool x.s') rfl
        have p50_3 := (hnd.below (below_trans hB Bz)).at 3 (.slice x.A' x.l' x.c') rfl
        have p51_0 := (hnd'.below (below_trans hB Bz)).c0 (u := .bool y.s) rfl
        have p51_1 := (hnd'.below (below_trans hB Bz)).at 1 (.slice y.A y.l y.c) rfl
        have p51_2 := (hnd'.below (below_trans hB Bz)).at 2 (.bool y.s') rfl
        have p51_3 := (hnd'.below (below_trans hB Bz)).at 3 (.slice y.A' y.l' y.c') rfl
        refine hK.out _ _ ⟨p1_2, p1_3, p50_0, p50_1, p50_2, p50_3, p51_0, p51_1, p51_2, p51_3⟩ (fun _ => ?_)
        try simp only [Act.put, List.setIfInBounds_toArray, List.set_cons_zero, List.set_cons_succ]
        clear hK K
        refine wpPlan_pure (o := ⟨some 54, _, _, _, _, _⟩) (v := ?_) rfl rfl (fun w' => ?_) ?_
        rotate_left
        · go_simp <;> with_reducible rfl
        try simp only [Act.put, List.setIfInBounds_toArray, List.set_cons_zero, List.set_cons_succ]
        refine wpPlan_done ?_
        go_wp2_with fail
        go_roundg (ni - (i + 1))
        case measure => have := HGK.out; omega
        case rel => exact ⟨⟨i + 1, by omega, rfl, by go_num, below_trans (below_trans hB Bz) (by go_grown), (by have := HX1.out.below (below_trans Bz (by go_grown)); rwa [← HOA.out, ← HHA.out] at this), take_all HD.out HZI.out HP.out⟩, below_trans (below_trans hBW Bz) (by go_grown)⟩
    · obtain rfl : i = ni := by omega
      have i1 : ¬ (i : Int) < (i : Int) := by omega
      have HBX : Hid (boxB q = true) := Lib.hid (by have := all_yes HZL.out HD.out; exact this)
      obtain ⟨ub, uo, rfl, uel⟩ := HU.out.at ics_len (by omega) (by omega)
      obtain ⟨last, hla⟩ : ∃ x, l[nl]? = some x := ⟨l[nl]'(by rw [HLL.out]; omega), List.getElem?_eq_getElem _⟩
      have und : ElA w2 ub (uo + nl) (ics last) := by have := uel nl last hla; rwa [Nat.mul_one] at this
      have HLA : Hid (l.getLastD 0 = last) := Lib.hid (by rw [List.getLastD_eq_getLast?, List.getLast?_eq_getElem?, HLL.out, Nat.add_sub_cancel, hla]; rfl)
      clear uel hla
      by_cases hneg : q.label < 0
      · have hnd : decide (q.label < 0) = true := decide_eq_true hneg
        have HA : Hid (queryF (i : Int) L q = 24) := Lib.hid (by unfold queryF; rw [HZ.out]; simp only; rw [if_neg (by rw [HOQ.out]; simp), if_neg HNM.out, if_neg (by rw [HBX.out]; simp), if_pos hneg])
        have Bz := Below.refl wr.heap.size wr
        have p1_1 := (HX1.out.below Bz).cell 1 (.int .i64 q.label) rfl
        go_wp2_with fail
        have w0 : IntKind.i64.wrap (nl : Int) = (nl : Int) := IntWalk.i64_in _ (by omega)
        have w1' : (0 : Int) ≤ (nl : Int) := by omega
        have w2' : (nl : Int) < (nl : Int) + 1 := by omega
        (try simp only [List.append_eq, List.cons_append, List.nil_append])
        refine wp_region_plan (.pure 0 (.take 1 (.pure 2 (.pure 3 (.pure 4 (.take 5 (.pure 6 (.pure 7 (.pure 8 (.pure 9 (.pure 10 (.take 11 (.pure 12 (.pure 13 .done)))))))))))))) [] (fun w' => w'.cell? ⟨w.heap.size + 1, 1, none⟩ = some (.int .i64 q.label)) (by kernel_rfl) (by kernel_rfl) p1_1 ?_
        refine wpPlan_pure (o := ⟨some 56, _, _, _, _, _⟩) (v := ?_) rfl rfl (fun w' => ?_) ?_
        rotate_left
        · go_simp <;> with_reducible rfl
        try simp only [Act.put, List.setIfInBounds_toArray, List.set_cons_zero, List.set_cons_succ]
        refine wpPlan_take (o := ⟨some 57, _, _, _, _, _⟩) (v := ?_) rfl rfl (fun w' hS => ?_) ?_
        rotate_left
        · obtain p1_1 := hS; go_simp <;> with_reducible rfl
        try simp only [Act.put, List.setIfInBounds_toArray, List.set_cons_zero, List.set_cons_succ]
        refine wpPlan_pure (o := ⟨some 58, _, _, _, _, _⟩) (v := ?_) rfl rfl (fun w' => ?_) ?_
        rotate_left
        · go_simp <;> with_reducible rfl
        try simp only [Act.put, List.setIfInBounds_toArray, List.set_cons_zero, List.set_cons_succ]
        refine wpPlan_pure (o := ⟨some 59, _, _, _, _, _⟩) (v := ?_) rfl rfl (fun w' => ?_) ?_
        rotate_left
        · go_simp <;> with_reducible rfl
        try simp only [Act.put, List.setIfInBounds_toArray, List.set_cons_zero, List.set_cons_succ]
        refine wpPlan_pskip (o := ⟨some 60, _, _, _, _, _⟩) rfl rfl ?_
        try simp only [Act.put, List.setIfInBounds_toArray, List.set_cons_zero, List.set_cons_succ]
        refine wpPlan_skip (o := ⟨some 61, _, _, _, _, _⟩) rfl rfl ?_
        try simp only [Act.put, List.setIfInBounds_toArray, List.set_cons_zero, List.set_cons_succ]
        refine wpPlan_pskip (o := ⟨some 62, _, _, _, _, _⟩) rfl rfl ?_
        try simp only [Act.put, List.setIfInBounds_toArray, List.set_cons_zero, List.set_cons_succ]
        refine wpPlan_pskip (o := ⟨some 63, _, _, _, _, _⟩) rfl rfl ?_
        try simp only [Act.put, List.setIfInBounds_toArray, List.set_cons_zero, List.set_cons_succ]
        refine wpPlan_pskip (o := ⟨some 64, _, _, _, _, _⟩) rfl rfl ?_
        try simp only [Act.put, List.setIfInBounds_toArray, List.set_cons_zero, List.set_cons_succ]
        refine wpPlan_pskip (o := ⟨some 65, _, _, _, _, _⟩) rfl rfl ?_
        try simp only [Act.put, List.setIfInBounds_toArray, List.set_cons_zero, List.set_cons_succ]
        refine wpPlan_pskip (o := ⟨some 66, _, _, _, _, _⟩) rfl rfl ?_
        try simp only [Act.put, List.setIfInBounds_toArray, List.set_cons_zero, List.set_cons_succ]
        refine wpPlan_skip (o := ⟨some 67, _, _, _, _, _⟩) rfl rfl ?_
        try simp only [Act.put, List.setIfInBounds_toArray, List.set_cons_zero, List.set_cons_succ]
        refine wpPlan_pskip (o := ⟨some 68, _, _, _, _, _⟩) rfl rfl ?_
        try simp only [Act.put, List.setIfInBounds_toArray, List.set_cons_zero, List.set_cons_succ]
        refine wpPlan_pure (o := ⟨some 69, _, _, _, _, _⟩) (v := ?_) rfl rfl (fun w' => ?_) ?_
        rotate_left
        · go_simp <;> with_reducible rfl
        try simp only [Act.put, List.setIfInBounds_toArray, List.set_cons_zero, List.set_cons_succ]
        refine wpPlan_done ?_
        clear w0 w1' w2'
        go_wp2_with fail
        go_ret
        have hF := below_trans (c := wr) hB Bz
        exact ⟨by rw [HA.out]; rfl, below_trans (below_trans hB Bz) (by go_grown)⟩
      · have hnd : decide (q.label < 0) = false := decide_eq_false hneg
        by_cases hhi : last ≤ q.label
        · have HA : Hid (queryF (i : Int) L q = 24) := Lib.hid (by unfold queryF; rw [HZ.out]; simp only; rw [if_neg (by rw [HOQ.out]; simp), if_neg HNM.out, if_neg (by rw [HBX.out]; simp), if_neg hneg, if_pos (by rw [HLA.out]; exact hhi)])
          have Bz := Below.refl wr.heap.size wr
          have p1_1 := (HX1.out.below Bz).cell 1 (.int .i64 q.label) rfl
          have p50_0 := (und.below (below_trans hBW Bz)).c0 (u := .int .i64 last) rfl
          go_wp2_with fail
          have w0 : IntKind.i64.wrap (nl : Int) = (nl : Int) := IntWalk.i64_in _ (by omega)
          have w1' : (0 : Int) ≤ (nl : Int) := by omega
          have w2' : (nl : Int) < (nl : Int) + 1 := by omega
          (try simp only [List.append_eq, List.cons_append, List.nil_append])
          refine wp_region_plan (.pure 0 (.take 1 (.pure 2 (.pure 3 (.pure 4 (.take 5 (.pure 6 (.pure 7 (.pure 8 (.pure 9 (.pure 10 (.take 11 (.pure 12 (.pure 13 .done)))))))))))))) [] (fun w' => w'.cell? ⟨w.heap.size + 1, 1, none⟩ = some (.int .i64 q.label) ∧ w'.cell? ⟨ub, uo + nl, none⟩ = some (.int .i64 last)) (by kernel_rfl) (by kernel_rfl) ⟨p1_1, p50_0⟩ ?_
          refine wpPlan_pure (o := ⟨some 56, _, _, _, _, _⟩) (v := ?_) rfl rfl (fun w' => ?_) ?_
          rotate_left
          · go_simp <;> with_reducible rfl
          try simp only [Act.put, List.setIfInBounds_toArray, List.set_cons_zero, List.set_cons_succ]
          refine wpPlan_take (o := ⟨some 57, _, _, _, _, _⟩) (v := ?_) rfl rfl (fun w' hS => ?_) ?_
          rotate_left
          · obtain ⟨p1_1, p50_0⟩ := hS; go_simp <;> with_reducible rfl
          try simp only [Act.put, List.setIfInBounds_toArray, List.set_cons_zero, List.set_cons_succ]
          refine wpPlan_pure (o := ⟨some 58, _, _, _, _, _⟩) (v := ?_) rfl rfl (fun w' => ?_) ?_
          rotate_left
          · go_simp <;> with_reducible rfl
          try simp only [Act.put, List.setIfInBounds_toArray, List.set_cons_zero, List.set_cons_succ]
          refine wpPlan_pure (o := ⟨some 59, _, _, _, _, _⟩) (v := ?_) rfl rfl (fun w' => ?_) ?_
          rotate_left
          · go_simp <;> with_reducible rfl
          try simp only [Act.put, List.setIfInBounds_toArray, List.set_cons_zero, List.set_cons_succ]
          refine wpPlan_pure (o := ⟨some 60, _, _, _, _, _⟩) (v := ?_) rfl rfl (fun w' => ?_) ?_
          rotate_left
          · go_simp <;> with_reducible rfl
          try simp only [Act.put, List.setIfInBounds_toArray, List.set_cons_zero, List.set_cons_succ]
          refine wpPlan_take (o := ⟨some 61, _, _, _, _, _⟩) (v := ?_) rfl rfl (fun w' hS => ?_) ?_
          rotate_left
          · obtain ⟨p1_1, p50_0⟩ := hS; go_simp <;> with_reducible rfl
          try simp only [Act.put, List.setIfInBounds_toArray, List.set_cons_zero, List.set_cons_succ]
          refine wpPlan_pure (o := ⟨some 62, _, _, _, _, _⟩) (v := ?_) rfl rfl (fun w' => ?_) ?_
          rotate_left
          · go_simp <;> with_reducible rfl
          try simp only [Act.put, List.setIfInBounds_toArray, List.set_cons_zero, List.set_cons_succ]
          refine wpPlan_pure (o := ⟨some 63, _, _, _, _, _⟩) (v := ?_) rfl rfl (fun w' => ?_) ?_
          rotate_left
          · go_simp <;> with_reducible rfl
          try simp only [Act.put, List.setIfInBounds_toArray, List.set_cons_zero, List.set_cons_succ]
          refine wpPlan_pure (o := ⟨some 64, _, _, _, _, _⟩) (v := ?_) rfl rfl (fun w' => ?_) ?_
          rotate_left
          · go_simp <;> with_reducible rfl
          try simp only [Act.put, List.setIfInBounds_toArray, List.set_cons_zero, List.set_cons_succ]
          refine wpPlan_pure (o := ⟨some 65, _, _, _, _, _⟩) (v := ?_) rfl rfl (fun w' => ?_) ?_
          rotate_left
          · go_simp <;> with_reducible rfl
          try simp only [Act.put, List.setIfInBounds_toArray, List.set_cons_zero, List.set_cons_succ]
          refine wpPlan_pure (o := ⟨some 66, _, _, _, _, _⟩) (v := ?_) rfl rfl (fun w' => ?_) ?_
          rotate_left
          · go_simp <;> with_reducible rfl
          try simp only [Act.put, List.setIfInBounds_toArray, List.set_cons_zero, List.set_cons_succ]
          refine wpPlan_take (o := ⟨some 67, _, _, _, _, _⟩) (v := ?_) rfl rfl (fun w' hS => ?_) ?_
          rotate_left
          · obtain ⟨p1_1, p50_0⟩ := hS; go_simp <;> with_reducible rfl
          try simp only [Act.put, List.setIfInBounds_toArray, List.set_cons_zero, List.set_cons_succ]
          refine wpPlan_pure (o := ⟨some 68, _, _, _, _, _⟩) (v := ?_) rfl rfl (fun w' => ?_) ?_
          rotate_left
          · go_simp <;> with_reducible rfl
          try simp only [Act.put, List.setIfInBounds_toArray, List.set_cons_zero, List.set_cons_succ]
          refine wpPlan_pure (o := ⟨some 69, _, _, _, _, _⟩) (v := ?_) rfl rfl (fun w' => ?_) ?_
          rotate_left
          · go_simp <;> with_reducible rfl
          try simp only [Act.put, List.setIfInBounds_toArray, List.set_cons_zero, List.set_cons_succ]
          refine wpPlan_done ?_
          clear w0 w1' w2'
          go_wp2_with fail
          go_ret
          have hF := below_trans (c := wr) hB Bz
          exact ⟨by rw [HA.out]; rfl, below_trans (below_trans hB Bz) (by go_grown)⟩
        · have HA : Hid (queryF (i : Int) L q = 0) := Lib.hid (by unfold queryF; rw [HZ.out]; simp only; rw [if_neg (by rw [HOQ.out]; simp), if_neg HNM.out, if_neg (by rw [HBX.out]; simp), if_neg hneg, if_neg (by rw [HLA.out]; exact hhi)])
          have Bz := Below.refl wr.heap.size wr
          have p1_1 := (HX1.out.below Bz).cell 1 (.int .i64 q.label) rfl
          have p50_0 := (und.below (below_trans hBW Bz)).c0 (u := .int .i64 last) rfl
          go_wp2_with fail
          have w0 : IntKind.i64.wrap (nl : Int) = (nl : Int) := IntWalk.i64_in _ (by omega)
          have w1' : (0 : Int) ≤ (nl : Int) := by omega
          have w2' : (nl : Int) < (nl : Int) + 1 := by omega
          (try simp only [List.append_eq, List.cons_append, List.nil_append])
          refine wp_region_plan (.pure 0 (.take 1 (.pure 2 (.pure 3 (.pure 4 (.take 5 (.pure 6 (.pure 7 (.pure 8 (.pure 9 (.pure 10 (.take 11 (.pure 12 (.pure 13 .done)))))))))))))) [] (fun w' => w'.cell? ⟨w.heap.size + 1, 1, none⟩ = some (.int .i64 q.label) ∧ w'.cell? ⟨ub, uo + nl, none⟩ = some (.int .i64 last)) (by kernel_rfl) (by kernel_rfl) ⟨p1_1, p50_0⟩ ?_
          refine wpPlan_pure (o := ⟨some 56, _, _, _, _, _⟩) (v := ?_) rfl rfl (fun w' => ?_) ?_
          rotate_left
          · go_simp <;> with_reducible rfl
          try simp only [Act.put, List.setIfInBounds_toArray, List.set_cons_zero, List.set_cons_succ]
          refine wpPlan_take (o := ⟨some 57, _, _, _, _, _⟩) (v := ?_) rfl rfl (fun w' hS => ?_) ?_
          rotate_left
          · obtain ⟨p1_1, p50_0⟩ := hS; go_simp <;> with_reducible rfl
          try simp only [Act.put, List.setIfInBounds_toArray, List.set_cons_zero, List.set_cons_succ]
          refine wpPlan_pure (o := ⟨some 58, _, _, _, _, _⟩) (v := ?_) rfl rfl (fun w' => ?_) ?_
          rotate_left
          · go_simp <;> with_reducible rfl
          try simp only [Act.put, List.setIfInBounds_toArray, List.set_cons_zero, List.set_cons_succ]
          refine wpPlan_pure (o := ⟨some 59, _, _, _, _, _⟩) (v := ?_) rfl rfl (fun w' => ?_) ?_
          rotate_left
          · go_simp <;> with_reducible rfl
          try simp only [Act.put, List.setIfInBounds_toArray, List.set_cons_zero, List.set_cons_succ]
          refine wpPlan_pure (o := ⟨some 60, _, _, _, _, _⟩) (v := ?_) rfl rfl (fun w' => ?_) ?_
          rotate_left
          · go_simp <;> with_reducible rfl
          try simp only [Act.put, List.setIfInBounds_toArray, List.set_cons_zero, List.set_cons_succ]
          refine wpPlan_take (o := ⟨some 61, _, _, _, _, _⟩) (v := ?_) rfl rfl (fun w' hS => ?_) ?_
          rotate_left
          · obtain ⟨p1_1, p50_0⟩ := hS; go_simp <;> with_reducible rfl
          try simp only [Act.put, List.setIfInBounds_toArray, List.set_cons_zero, List.set_cons_succ]
          refine wpPlan_pure (o := ⟨some 62, _, _, _, _, _⟩) (v := ?_) rfl rfl (fun w' => ?_) ?_
          rotate_left
          · go_simp <;> with_reducible rfl
          try simp only [Act.put, List.setIfInBounds_toArray, List.set_cons_zero, List.set_cons_succ]
          refine wpPlan_pure (o := ⟨some 63, _, _, _, _, _⟩) (v := ?_) rfl rfl (fun w' => ?_) ?_
          rotate_left
          · go_simp <;> with_reducible rfl
          try simp only [Act.put, List.setIfInBounds_toArray, List.set_cons_zero, List.set_cons_succ]
          refine wpPlan_pure (o := ⟨some 64, _, _, _, _, _⟩) (v := ?_) rfl rfl (fun w' => ?_) ?_
          rotate_left
          · go_simp <;> with_reducible rfl
          try simp only [Act.put, List.setIfInBounds_toArray, List.set_cons_zero, List.set_cons_succ]
          refine wpPlan_pure (o := ⟨some 65, _, _, _, _, _⟩) (v := ?_) rfl rfl (fun w' => ?_) ?_
          rotate_left
          · go_simp <;> with_reducible rfl
          try simp only [Act.put, List.setIfInBounds_toArray, List.set_cons_zero, List.set_cons_succ]
          refine wpPlan_pure (o := ⟨some 66, _, _, _, _, _⟩) (v := ?_) rfl rfl (fun w' => ?_) ?_
          rotate_left
          · go_simp <;> with_reducible rfl
          try simp only [Act.put, List.setIfInBounds_toArray, List.set_cons_zero, List.set_cons_succ]
          refine wpPlan_take (o := ⟨some 67, _, _, _, _, _⟩) (v := ?_) rfl rfl (fun w' hS => ?_) ?_
          rotate_left
          · obtain ⟨p1_1, p50_0⟩ := hS; go_simp <;> with_reducible rfl
          try simp only [Act.put, List.setIfInBounds_toArray, List.set_cons_zero, List.set_cons_succ]
          refine wpPlan_pure (o := ⟨some 68, _, _, _, _, _⟩) (v := ?_) rfl rfl (fun w' => ?_) ?_
          rotate_left
          · go_simp <;> with_reducible rfl
          try simp only [Act.put, List.setIfInBounds_toArray, List.set_cons_zero, List.set_cons_succ]
          refine wpPlan_pure (o := ⟨some 69, _, _, _, _, _⟩) (v := ?_) rfl rfl (fun w' => ?_) ?_
          rotate_left
          · go_simp <;> with_reducible rfl
          try simp only [Act.put, List.setIfInBounds_toArray, List.set_cons_zero, List.set_cons_succ]
          refine wpPlan_done ?_
          clear w0 w1' w2'
          go_wp2_with fail
          go_ret
          have hF := below_trans (c := wr) hB Bz
          exact ⟨by rw [HA.out]; rfl, below_trans (below_trans hB Bz) (by go_grown)⟩
theorem query_q {w : World} {m : Nat} {inp : Int} {lA : Option Addr} {ln lc : Nat} {L : List Ly} {q : Qy} (h : Sl Ly.cs 13 w lA ln lc L) (hok : Hid (∀ y ∈ L, LyOk w m y)) (hm : m ≤ 20000) (hln : ln ≤ 9223372036854775807) (hq : QyOk w m q) (hT : Hid (Tab w)) :
    Calls Tryd.prog 14 #[.agg #[.int .i64 inp, .slice lA ln lc], .agg #[.slice q.xA q.xn q.xc, .int .i64 q.label, .slice q.oA q.on q.oc, .slice q.hA q.hn q.hc, .int .u8 q.norm]] w fun e w' => e = .returned (.int .i64 (queryF inp L q)) ∧ Below w.heap.size w w' := by
  cases hz : sizesF inp L with
  | error z =>
    have hz2 := sizes_err hz
    exact query_er h hok hm hln hq (Lib.hid hz) (by rcases hz2 with rfl | rfl <;> rfl) (Lib.hid (by unfold queryF; rw [hz])) hT
  | ok l =>
    have e3 : [q.x, q.o, q.h].all (okV inp) = okQ inp q := by simp [okQ]
    cases ho : okQ inp q
    · exact query_sh h hok hm hln hq (Lib.hid hz) (Lib.hid (e3.trans ho)) (Lib.hid (by unfold queryF; rw [hz]; simp only; rw [if_pos ho])) hT
    · by_cases n1 : q.norm = 1
      · obtain ⟨ni, rfl⟩ : ∃ ni : Nat, inp = (ni : Int) := ⟨inp.toNat, by have := (sizes_steps hz).1; omega⟩
        exact query_m1 h hok hm hln hq (Lib.hid hz) (Lib.hid (e3.trans ho)) (by simp [n1]) (Lib.hid ho) (Lib.hid fun hx => hx.1 n1) hT
      · by_cases n2 : q.norm = 2
        · obtain ⟨ni, rfl⟩ : ∃ ni : Nat, inp = (ni : Int) := ⟨inp.toNat, by have := (sizes_steps hz).1; omega⟩
          exact query_m2 h hok hm hln hq (Lib.hid hz) (Lib.hid (e3.trans ho)) (by simp [n1]) (by simp [n2]) (Lib.hid ho) (Lib.hid fun hx => hx.2 n2) hT
        · exact query_nm h hok hm hln hq (Lib.hid hz) (Lib.hid (e3.trans ho)) (by simp [n1]) (by simp [n2]) (Lib.hid (by unfold queryF; rw [hz]; simp only; rw [if_neg (by rw [ho]; simp), if_pos ⟨n1, n2⟩])) hT
end Go.Proofs.YtionhpangenhnaaDoor
