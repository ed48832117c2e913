/-
  Does something hold of each one of a slice? shapes.all, with closures that count. Written by wip/gen/sh4.py.
-/
import Derived.Test.YtionhpangenhnaaDoorSh3
namespace Go.Proofs.YtionhpangenhnaaDoor
open Go.RowKit Tw

/-- Of what was there, block b alone has been written; no digit. -/
def Ch (w w' : World) (b : Nat) : Prop := w.grownBy w' (some b) ∧ K64 w w'
theorem Ch.refl (w : World) (b : Nat) : Ch w w b := ⟨⟨rfl, rfl, rfl, Nat.le_refl _, fun _ _ _ => rfl⟩, K64.refl w⟩
theorem Ch.trans {a b c : World} {x : Nat} (h : Ch a b x) (k : Ch b c x) : Ch a c x := ⟨grown_trans h.1 k.1, h.2.trans k.2⟩
theorem Ch.of_below {w w' : World} {b : Nat} (h : Below w.heap.size w w') : Ch w w' b := ⟨grown_below h _, K64.below h⟩
theorem Ch.bx {w w' : World} {b x : Nat} {cs : Array Value} {t : TypeId} (h : Ch w w' b) (hx : Bx w x cs t) (hne : x ≠ b) : Bx w' x cs t := (h.1.block x hx.lt (by simpa using hne)).trans hx
theorem Ch.below {w w' : World} {b B : Nat} (h : Ch w w' b) (hb : B ≤ b) (hB : B ≤ w.heap.size) : Below B w w' := ⟨h.1.os, h.1.tape, h.1.output, h.1.size, fun i hi => h.1.block i (Nat.lt_of_lt_of_le hi hB) (by simp; omega)⟩
theorem Ch.set {w : World} {b i : Nat} {cs : Array Value} {t : TypeId} {u : Value} (h : Bx w b cs t) (hi : cs[i]? = some u) (hu : ∀ n, u ≠ .int .u64 n) (v : Value) : Ch w (w.setCell ⟨b, i, none⟩ v) b := ⟨grown_set ⟨rfl, rfl, rfl, Nat.le_refl _, fun _ _ _ => rfl⟩ (.inl rfl) _, K64.box h hi hu v⟩
theorem Ch.fresh {a b c : World} {x y : Nat} (h : Ch a b x) (k : Ch b c y) (hy : a.heap.size ≤ y) : Ch a c x :=
  ⟨⟨k.1.os.trans h.1.os, k.1.tape.trans h.1.tape, k.1.output.trans h.1.output, Nat.le_trans h.1.size k.1.size, fun i hi hn => (k.1.block i (Nat.lt_of_lt_of_le hi h.1.size) (by simp; omega)).trans (h.1.block i hi hn)⟩, h.2.trans k.2⟩
/-- A vector in memory. -/
structure Vc where
  A : Option Addr
  n : Nat
  c : Nat
  L : List Tm
def Vc.cs (v : Vc) : List Value := [.slice v.A v.n v.c]
theorem Vc.cs_len (v : Vc) : v.cs.length = 1 := rfl
def VcOk (w : World) (m : Nat) (v : Vc) : Prop := Sl Tm.cs 5 w v.A v.n v.c v.L ∧ (∀ t ∈ v.L, FrOk w m t.x) ∧ v.n ≤ 1000000
theorem VcOk.below {w w' : World} {m : Nat} {v : Vc} (h : VcOk w m v) (hb : Below w.heap.size w w') : VcOk w' m v := ⟨h.1.below hb, fun t ht => (h.2.1 t ht).below hb, h.2.2⟩
theorem VcOk.sl {w : World} {m : Nat} {v : Vc} (h : VcOk w m v) : Sl Tm.cs 5 w v.A v.n v.c v.L := h.1
theorem VcOk.fr {w : World} {m : Nat} {v : Vc} (h : VcOk w m v) : ∀ t ∈ v.L, FrOk w m t.x := h.2.1
/-- How many terms there are in all. -/
def lens (L : List Vc) : Nat := (L.map (·.n)).sum
set_option maxRecDepth 100000 in
set_option maxHeartbeats 4000000 in
theorem affine1_q {w0 w : World} {m bt bn : Nat} {v : Vc} {T n : Int} (hB : Below w0.heap.size w0 w) (h : VcOk w0 m v) (hm : m ≤ 20000) (hbt : w0.heap.size ≤ bt) (xt : Bx w bt #[.int .i64 T] 3) (xn : Bx w bn #[.int .i64 n] 3) (hne : bn ≠ bt) (hT0 : 0 ≤ T) (hT1 : T ≤ 1000000000000) (r : Bool) (hr : Hid (rightB v.L n = r)) (hT : Hid (Tab w0)) :
    Calls Tryd.prog 119 #[.slice v.A v.n v.c, .pointer (some ⟨bt, 0, none⟩), .pointer (some ⟨bn, 0, none⟩)] w fun e w' => e = .returned (.bool r) ∧ Bx w' bt #[.int .i64 (T + (v.n : Int))] 3 ∧ Ch w w' bt := by
  have hn := h.2.2
  have HV := Lib.hid h
  have XT := Lib.hid xt
  have XN := Lib.hid xn
  have c0 := xt.cell 0 (.int .i64 T) rfl
  have f0 := xt.frozen 0
  have y0 := xt.lt
  have c1 := xn.cell 0 (.int .i64 n) rfl
  have u1 : IntKind.i64.wrap (T + (v.n : Int)) = T + (v.n : Int) := IntWalk.i64_in _ (by omega)
  have hB2 : Below w0.heap.size w0 (w.setCell ⟨bt, 0, none⟩ (.int .i64 (T + (v.n : Int)))) := hB.setCell hbt _
  obtain ⟨V, hV⟩ : ∃ V, V = w.setCell ⟨bt, 0, none⟩ (.int .i64 (T + (v.n : Int))) := ⟨_, rfl⟩
  rw [← hV] at hB2
  have c2 : V.cell? ⟨bn, 0, none⟩ = some (.int .i64 n) := by rw [hV]; exact (xn.far hne _).cell 0 _ rfl
  clear h xt xn
  go_enter Tryd.func119, Tryd.ntmps119
  go_upto_region 2 with (fail)
  rw [← hV]
  have HVV := Lib.hid hV
  clear hV
  go_wp2_with fail
  with_reducible refine (right_q (HV.out.below hB2).sl (HV.out.below hB2).fr hm (by omega) r hr (Lib.hid (Tab.below hT.out hB2))).mono ?_
  rintro e w1 ⟨rfl, b1⟩
  go_wp2_with fail
  go_ret
  have hc : Ch w V bt := by rw [HVV.out]; exact Ch.set XT.out (i := 0) rfl (fun _ e => by cases e) _
  exact ⟨rfl, Bx.below (by rw [HVV.out]; exact XT.out.set 0 _) b1, hc.trans (Ch.of_below b1)⟩
theorem lens_take {L : List Vc} {i : Nat} {v : Vc} (h : L[i]? = some v) : lens (L.take (i + 1)) = lens (L.take i) + v.n := by
  unfold lens; rw [List.take_add_one, List.map_append, List.sum_append, h]; simp
theorem lens_le {L : List Vc} {K : Nat} (h : ∀ v ∈ L, v.n ≤ K) (i : Nat) : lens (L.take i) ≤ i * K := by
  induction i with
  | zero => simp [lens]
  | succ i ih =>
    rcases Nat.lt_or_ge i L.length with hi | hi
    · rw [lens_take (List.getElem?_eq_getElem hi)]; have := h _ (List.getElem_mem hi); rw [Nat.add_mul]; omega
    · rw [List.take_of_length_le (by omega)] at ih ⊢; rw [Nat.add_mul]; omega
/-- A state of the loop of all. -/
def AV (w0 w : World) (bt bn : Nat) (T n : Int) (L : List Vc) (len gk : Nat) (s : Value) (wr : World) : Prop :=
  ∃ i : Nat, i ≤ len ∧ len - i = gk ∧ s = .int .i64 (i : Int) ∧ Below w0.heap.size w0 wr ∧ Ch w wr bt ∧ Bx wr bt #[.int .i64 (T + (lens (L.take i) : Int))] 3 ∧ Bx wr bn #[.int .i64 n] 3 ∧ (L.take i).all (fun v => rightB v.L n) = true
/-- What all tells of vectors. -/
def TellsAllV (w : World) (bt : Nat) (T : Int) (L : List Vc) (r : Bool) (e : Ending) (w' : World) : Prop := e = .returned (.bool r) ∧ (r = true → Bx w' bt #[.int .i64 (T + (lens L : Int))] 3) ∧ Ch w w' bt
set_option maxRecDepth 100000 in
set_option maxHeartbeats 4000000 in
theorem all_vec {w0 w : World} {A : Option Addr} {len c m bt bn : Nat} {L : List Vc} {T n : Int} (hB : Below w0.heap.size w0 w) (h : Sl Vc.cs 1 w0 A len c L) (hok : ∀ v ∈ L, VcOk w0 m v) (hm : m ≤ 20000) (hlen : len ≤ 100000) (hbt : w0.heap.size ≤ bt) (xt : Bx w bt #[.int .i64 T] 3) (xn : Bx w bn #[.int .i64 n] 3) (hne : bn ≠ bt) (hT0 : 0 ≤ T) (hT1 : T ≤ 1000000) (r : Bool) (hr : Hid (L.all (fun v => rightB v.L n) = r)) (hT : Hid (Tab w0)) :
    Calls Tryd.prog 121 #[.slice A len c, .func (.func 119) #[] #[.pointer (some ⟨bt, 0, none⟩), .pointer (some ⟨bn, 0, none⟩)]] w (TellsAllV w bt T L r) := by
  have H := Lib.hid h
  have HLN := Lib.hid h.1
  have HOK := Lib.hid hok
  have hll := Lib.hid (lens_le (K := 1000000) (fun v hv => (hok v hv).2.2))
  have hst : AV w0 w bt bn T n L len len (.int .i64 ((0 : Nat) : Int)) w := ⟨0, Nat.zero_le _, rfl, rfl, hB, Ch.refl _ _, by simpa [lens] using xt, xn, by simp⟩
  have HST := Lib.hid hst
  clear h hok hst xt xn hB
  go_enter Tryd.func121, Tryd.ntmps121
  go_wp2_with fail
  go_loopg [9] len (fun gk s wr => AV w0 w bt bn T n L len gk s wr)
  case atStart => exact HST.out
  case round =>
    clear HST
    obtain ⟨i, hi, hgk, rfl, hB, hc, xt, xn, hd⟩ := hrel
    have HGK := Lib.hid hgk
    have HD := Lib.hid hd
    have XT := Lib.hid xt
    have XN := Lib.hid xn
    have HC := Lib.hid hc
    clear hgk hd xt xn hc
    by_cases hlt : i < len
    · obtain ⟨b, off, rfl, hel⟩ := H.out.at Vc.cs_len (by omega) (by omega)
      obtain ⟨v, hv⟩ : ∃ v, L[i]? = some v := ⟨L[i]'(by rw [HLN.out]; exact hlt), List.getElem?_eq_getElem _⟩
      have hnd : ElA w0 b (off + i) v.cs := by have := hel i v hv; rwa [Nat.mul_one] at this
      have HTI := Lib.hid hv
      have HVO := Lib.hid (HOK.out v (List.mem_of_getElem? hv))
      have p0 := (hnd.below hB).c0 (u := .slice v.A v.n v.c) rfl
      have i1 : (i : Int) < (len : Int) := by omega
      have i2 : (0 : Int) ≤ (i : Int) := by omega
      have hlb := hll.out i
      have hvn := HVO.out.2.2
      clear hv hel hnd
      obtain ⟨rv, HRV⟩ : ∃ rv, Hid (rightB v.L n = rv) := ⟨_, Lib.hid rfl⟩
      go_wp2_with fail
      with_reducible refine (affine1_q hB HVO.out hm hbt XT.out XN.out hne (by omega) (by omega) rv HRV hT).mono ?_
      rintro e w2 ⟨rfl, x2, ch⟩
      have hB2 : Below w0.heap.size w0 w2 := hB.trans (ch.below hbt hB.size)
      replace XN := Lib.hid (ch.bx XN.out hne)
      replace HC := Lib.hid (HC.out.trans ch)
      have X2 := Lib.hid x2
      clear p0 x2 ch
      cases rv
      · obtain rfl : r = false := by rw [← hr.out]; exact all_no HTI.out HRV.out
        go_wp2_with fail
        go_ret
        exact ⟨rfl, (fun h => by cases h), HC.out⟩
      · go_wp2_with fail
        go_roundg (len - (i + 1))
        case measure => have := HGK.out; omega
        case rel => exact ⟨i + 1, by omega, rfl, by go_num, hB2, HC.out, by rw [lens_take HTI.out, Int.natCast_add, ← Int.add_assoc]; exact X2.out, XN.out, take_all HD.out HTI.out HRV.out⟩
    · obtain rfl : i = len := by omega
      have i1 : ¬ (i : Int) < (i : Int) := by omega
      obtain rfl : r = true := by rw [← hr.out]; exact all_yes HLN.out HD.out
      go_wp2_with fail
      go_ret
      exact ⟨rfl, fun _ => by have := XT.out; rwa [List.take_of_length_le (by rw [HLN.out]; exact Nat.le_refl _)] at this, HC.out⟩
/-- Do numbers rise, from above a on, all below n? -/
def risesB (n : Int) : Int → List Int → Bool
  | _, [] => true
  | a, x :: xs => (decide (a < x) && decide (x < n)) && risesB n x xs
/-- The last one; a, if there is none. -/
def lastOf (a : Int) (L : List Int) : Int := L.getLast?.getD a
theorem lastOf_snoc (a : Int) (L : List Int) (x : Int) : lastOf a (L ++ [x]) = x := by simp [lastOf]
theorem risesB_snoc (n : Int) (xs : List Int) : ∀ (a y : Int), risesB n a (xs ++ [y]) = (risesB n a xs && (decide (lastOf a xs < y) && decide (y < n))) := by
  induction xs with
  | nil =>
    intro a y
    show ((decide (a < y) && decide (y < n)) && true) = (true && (decide (a < y) && decide (y < n)))
    rw [Bool.and_true, Bool.true_and]
  | cons x xs ih =>
    intro a y
    show ((decide (a < x) && decide (x < n)) && risesB n x (xs ++ [y])) = (((decide (a < x) && decide (x < n)) && risesB n x xs) && _)
    rw [ih x y, Bool.and_assoc (decide (a < x) && decide (x < n))]
    have : lastOf a (x :: xs) = lastOf x xs := by
      unfold lastOf
      cases xs with
      | nil => rfl
      | cons z zs => rw [List.getLast?_cons_cons]; cases h : (z :: zs).getLast? with
        | none => simp at h
        | some u => rfl
    rw [this]
theorem risesB_front (n : Int) (xs : List Int) : ∀ (a : Int) (ys : List Int), risesB n a xs = false → risesB n a (xs ++ ys) = false := by
  induction xs with
  | nil => intro a ys h; simp [risesB] at h
  | cons x xs ih =>
    intro a ys h
    show ((decide (a < x) && decide (x < n)) && risesB n x (xs ++ ys)) = false
    replace h : ((decide (a < x) && decide (x < n)) && risesB n x xs) = false := h
    rw [Bool.and_eq_false_iff] at h ⊢
    rcases h with h | h
    · exact .inl h
    · exact .inr (ih x ys h)
theorem risesB_no {n a : Int} {L : List Int} {i : Nat} (h : risesB n a (L.take i) = false) : risesB n a L = false := by
  have := risesB_front n _ a (L.drop i) h
  rwa [List.take_append_drop] at this
theorem take_snoc {α : Type} {L : List α} {i : Nat} {x : α} (h : L[i]? = some x) : L.take (i + 1) = L.take i ++ [x] := by rw [List.take_add_one, h]; rfl
/-- One number told of, and kept as the last one. -/
def Tells11 (w : World) (bl : Nat) (x : Int) (r : Bool) (e : Ending) (w' : World) : Prop := e = .returned (.bool r) ∧ Bx w' bl #[.int .i64 x] 3 ∧ Ch w w' bl
set_option maxRecDepth 100000 in
set_option maxHeartbeats 4000000 in
theorem pool11_q {w : World} {bl bn : Nat} {a x n : Int} (xl : Bx w bl #[.int .i64 a] 3) (xn : Bx w bn #[.int .i64 n] 3) (r : Bool) (hr : Hid ((decide (a < x) && decide (x < n)) = r)) :
    Calls Tryd.prog 128 #[.int .i64 x, .pointer (some ⟨bl, 0, none⟩), .pointer (some ⟨bn, 0, none⟩)] w (Tells11 w bl x r) := by
  have HF : Hid (Tells11 w bl x r (.returned (.bool r)) (w.setCell ⟨bl, 0, none⟩ (.int .i64 x))) := Lib.hid ⟨rfl, xl.set 0 _, Ch.set xl (i := 0) rfl (fun _ e => by cases e) _⟩
  have c0 := xl.cell 0 (.int .i64 a) rfl
  have f0 := xl.frozen 0
  have y0 := xl.lt
  have c1 := xn.cell 0 (.int .i64 n) rfl
  clear xl xn
  cases h1 : decide (a < x)
  · obtain rfl : r = false := by rw [← hr.out, h1]; rfl
    clear hr
    go_enter Tryd.func128, Tryd.ntmps128
    go_wp2_with fail
    go_ret
    exact HF.out
  · have g1 : decide (x < n) = r := by rw [← hr.out, h1]; rfl
    clear hr
    go_enter Tryd.func128, Tryd.ntmps128
    go_wp2_with fail
    go_ret
    exact HF.out
/-- A state of the loop of all. -/
def AI (w0 w : World) (bl bn : Nat) (a n : Int) (L : List Int) (len gk : Nat) (s : Value) (wr : World) : Prop :=
  ∃ i : Nat, i ≤ len ∧ len - i = gk ∧ s = .int .i64 (i : Int) ∧ Below w0.heap.size w0 wr ∧ Ch w wr bl ∧ Bx wr bl #[.int .i64 (lastOf a (L.take i))] 3 ∧ Bx wr bn #[.int .i64 n] 3 ∧ risesB n a (L.take i) = true
def TellsAllI (w : World) (bl : Nat) (r : Bool) (e : Ending) (w' : World) : Prop := e = .returned (.bool r) ∧ Ch w w' bl
set_option maxRecDepth 100000 in
set_option maxHeartbeats 4000000 in
theorem all_pool11 {w0 w : World} {A : Option Addr} {len c bl bn : Nat} {L : List Int} {a n : Int} (hB : Below w0.heap.size w0 w) (h : Sl ics 1 w0 A len c L) (hlen : len ≤ 1000000000) (hbl : w0.heap.size ≤ bl) (xl : Bx w bl #[.int .i64 a] 3) (xn : Bx w bn #[.int .i64 n] 3) (hne : bn ≠ bl) (r : Bool) (hr : Hid (risesB n a L = r)) :
    Calls Tryd.prog 123 #[.slice A len c, .func (.func 128) #[] #[.pointer (some ⟨bl, 0, none⟩), .pointer (some ⟨bn, 0, none⟩)]] w (TellsAllI w bl r) := by
  have H := Lib.hid h
  have HLN := Lib.hid h.1
  have hst : AI w0 w bl bn a n L len len (.int .i64 ((0 : Nat) : Int)) w := ⟨0, Nat.zero_le _, rfl, rfl, hB, Ch.refl _ _, by simpa [lastOf] using xl, xn, by simp [risesB]⟩
  have HST := Lib.hid hst
  clear h hst xl xn hB
  go_enter Tryd.func123, Tryd.ntmps123
  go_wp2_with fail
  go_loopg [9] len (fun gk s wr => AI w0 w bl bn a n L len gk s wr)
  case atStart => exact HST.out
  case round =>
    clear HST
    obtain ⟨i, hi, hgk, rfl, hB, hc, xl, xn, hd⟩ := hrel
    have HGK := Lib.hid hgk
    have HD := Lib.hid hd
    have XL := Lib.hid xl
    have XN := Lib.hid xn
    have HC := Lib.hid hc
    clear hgk hd xl xn hc
    by_cases hlt : i < len
    · obtain ⟨b, off, rfl, hel⟩ := H.out.at ics_len (by omega) (by omega)
      obtain ⟨x, hx⟩ : ∃ x, L[i]? = some x := ⟨L[i]'(by rw [HLN.out]; exact hlt), List.getElem?_eq_getElem _⟩
      have hnd : ElA w0 b (off + i) (ics x) := by have := hel i x hx; rwa [Nat.mul_one] at this
      have HTI := Lib.hid hx
      have p0 := (hnd.below hB).c0 (u := .int .i64 x) rfl
      have i1 : (i : Int) < (len : Int) := by omega
      have i2 : (0 : Int) ≤ (i : Int) := by omega
      clear hx hel hnd
      obtain ⟨rv, HRV⟩ : ∃ rv, Hid ((decide (lastOf a (L.take i) < x) && decide (x < n)) = rv) := ⟨_, Lib.hid rfl⟩
      go_wp2_with fail
      with_reducible refine (pool11_q XL.out XN.out rv HRV).mono ?_
      rintro e w2 ⟨rfl, x2, ch⟩
      have hB2 : Below w0.heap.size w0 w2 := hB.trans (ch.below hbl hB.size)
      replace XN := Lib.hid (ch.bx XN.out hne)
      replace HC := Lib.hid (HC.out.trans ch)
      have X2 := Lib.hid x2
      have hrs : risesB n a (L.take (i + 1)) = rv := by rw [take_snoc HTI.out, risesB_snoc, HD.out, HRV.out]; rfl
      have HRS := Lib.hid hrs
      clear p0 x2 ch hrs
      cases rv
      · obtain rfl : r = false := by rw [← hr.out]; exact risesB_no HRS.out
        go_wp2_with fail
        go_ret
        exact ⟨rfl, HC.out⟩
      · go_wp2_with fail
        go_roundg (len - (i + 1))
        case measure => have := HGK.out; omega
        case rel => exact ⟨i + 1, by omega, rfl, by go_num, hB2, HC.out, by rw [take_snoc HTI.out, lastOf_snoc]; exact X2.out, XN.out, HRS.out⟩
    · obtain rfl : i = len := by omega
      have i1 : ¬ (i : Int) < (i : Int) := by omega
      obtain rfl : r = true := by rw [← hr.out]; have := HD.out; rwa [List.take_of_length_le (by rw [HLN.out]; exact Nat.le_refl _)] at this
      go_wp2_with fail
      go_ret
      exact ⟨rfl, HC.out⟩
/-- A list of numbers in memory. -/
structure Gp where
  A : Option Addr
  n : Nat
  c : Nat
  L : List Int
def Gp.cs (v : Gp) : List Value := [.slice v.A v.n v.c]
theorem Gp.cs_len (v : Gp) : v.cs.length = 1 := rfl
def GpOk (w : World) (v : Gp) : Prop := Sl ics 1 w v.A v.n v.c v.L ∧ v.n ≤ 1000000
theorem GpOk.below {w w' : World} {v : Gp} (h : GpOk w v) (hb : Below w.heap.size w w') : GpOk w' v := ⟨h.1.below hb, h.2⟩
theorem GpOk.sl {w : World} {v : Gp} (h : GpOk w v) : Sl ics 1 w v.A v.n v.c v.L := h.1
/-- Is a group as it should be? -/
def groupB (n : Int) (v : Gp) : Bool := decide (0 < v.n) && risesB n (-1) v.L
def glens (L : List Gp) : Nat := (L.map (·.n)).sum
def Tells1P (w : World) (bt : Nat) (T : Int) (v : Gp) (r : Bool) (e : Ending) (w' : World) : Prop := e = .returned (.bool r) ∧ Bx w' bt #[.int .i64 (T + (v.n : Int))] 3 ∧ Ch w w' bt
set_option maxRecDepth 100000 in
set_option maxHeartbeats 4000000 in
theorem pool1_q {w0 w : World} {bt bn : Nat} {v : Gp} {T n : Int} (hB : Below w0.heap.size w0 w) (h : GpOk w0 v) (hbt : w0.heap.size ≤ bt) (xt : Bx w bt #[.int .i64 T] 3) (xn : Bx w bn #[.int .i64 n] 3) (hne : bn ≠ bt) (hT0 : 0 ≤ T) (hT1 : T ≤ 1000000000000) (r : Bool) (hr : Hid (groupB n v = r)) :
    Calls Tryd.prog 127 #[.slice v.A v.n v.c, .pointer (some ⟨bt, 0, none⟩), .pointer (some ⟨bn, 0, none⟩)] w (Tells1P w bt T v r) := by
  have hn := h.2
  have HV := Lib.hid h
  have XT := Lib.hid xt
  have XN := Lib.hid xn
  have c0 := xt.cell 0 (.int .i64 T) rfl
  have f0 := xt.frozen 0
  have y0 := xt.lt
  have u1 : IntKind.i64.wrap (T + (v.n : Int)) = T + (v.n : Int) := IntWalk.i64_in _ (by omega)
  have hB2 : Below w0.heap.size w0 (w.setCell ⟨bt, 0, none⟩ (.int .i64 (T + (v.n : Int)))) := hB.setCell hbt _
  obtain ⟨V, hV⟩ : ∃ V, V = w.setCell ⟨bt, 0, none⟩ (.int .i64 (T + (v.n : Int))) := ⟨_, rfl⟩
  rw [← hV] at hB2
  have hc : Ch w V bt := by rw [hV]; exact Ch.set XT.out (i := 0) rfl (fun _ e => by cases e) _
  have xt2 : Bx V bt #[.int .i64 (T + (v.n : Int))] 3 := by rw [hV]; exact XT.out.set 0 _
  have XT2 := Lib.hid xt2
  have XN2 := Lib.hid (hc.bx xn hne)
  have HC := Lib.hid hc
  obtain ⟨V5, hV5, x5, hN5⟩ := boxes1 V #[.int .i64 (-1)] 3
  obtain ⟨b5, hb5⟩ : ∃ b, b = V.heap.size := ⟨_, rfl⟩
  rw [← hb5] at x5
  have X5 := Lib.hid x5
  have hb5w : w0.heap.size ≤ b5 := by rw [hb5]; exact hB2.size
  have hbn5 : bn ≠ b5 := by have := XN2.out.lt; omega
  have hbt5 : bt ≠ b5 := by have := XT2.out.lt; omega
  have HB5 := Lib.hid hb5
  clear h xt xn hc xt2 x5
  go_enter Tryd.func127, Tryd.ntmps127
  go_upto_region 2 with (fail)
  rw [← hV]
  clear hV
  go_upto_region 3 with (fail)
  rw [← hV5, ← hb5]
  clear hV5 hb5
  by_cases h0 : 0 < v.n
  · have g1 : decide ((0 : Int) < (v.n : Int)) = true := decide_eq_true (by omega)
    have HR : Hid (risesB n (-1) v.L = r) := Lib.hid (by rw [← hr.out]; unfold groupB; rw [decide_eq_true h0, Bool.true_and])
    go_wp2_with fail
    with_reducible refine (all_pool11 (below_trans hB2 hN5) HV.out.sl (by omega) hb5w X5.out (XN2.out.below hN5) hbn5 r HR).mono ?_
    rintro e w3 ⟨rfl, ch⟩
    go_wp2_with fail
    go_ret
    exact ⟨rfl, ch.bx (XT2.out.below hN5) hbt5, (HC.out.trans (Ch.of_below hN5)).fresh ch (by rw [HB5.out]; exact HC.out.1.size)⟩
  · have g1 : decide ((0 : Int) < (v.n : Int)) = false := decide_eq_false (by omega)
    have g2 : ¬ (0 : Int) < (v.n : Int) := by omega
    obtain rfl : r = false := by rw [← hr.out]; unfold groupB; rw [decide_eq_false h0, Bool.false_and]
    go_wp2_with fail
    go_ret
    exact ⟨rfl, XT2.out.below hN5, HC.out.trans (Ch.of_below hN5)⟩
theorem glens_take {L : List Gp} {i : Nat} {v : Gp} (h : L[i]? = some v) : glens (L.take (i + 1)) = glens (L.take i) + v.n := by
  unfold glens; rw [List.take_add_one, List.map_append, List.sum_append, h]; simp
theorem glens_le {L : List Gp} {K : Nat} (h : ∀ v ∈ L, v.n ≤ K) (i : Nat) : glens (L.take i) ≤ i * K := by
  induction i with
  | zero => simp [glens]
  | succ i ih =>
    rcases Nat.lt_or_ge i L.length with hi | hi
    · rw [glens_take (List.getElem?_eq_getElem hi)]; have := h _ (List.getElem_mem hi); rw [Nat.add_mul]; omega
    · rw [List.take_of_length_le (by omega)] at ih ⊢; rw [Nat.add_mul]; omega
/-- A state of the loop of all. -/
def AG (w0 w : World) (bt bn : Nat) (T n : Int) (L : List Gp) (len gk : Nat) (s : Value) (wr : World) : Prop :=
  ∃ i : Nat, i ≤ len ∧ len - i = gk ∧ s = .int .i64 (i : Int) ∧ Below w0.heap.size w0 wr ∧ Ch w wr bt ∧ Bx wr bt #[.int .i64 (T + (glens (L.take i) : Int))] 3 ∧ Bx wr bn #[.int .i64 n] 3 ∧ (L.take i).all (fun v => groupB n v) = true
/-- What all tells of groups. -/
def TellsAllG (w : World) (bt : Nat) (T : Int) (L : List Gp) (r : Bool) (e : Ending) (w' : World) : Prop := e = .returned (.bool r) ∧ (r = true → Bx w' bt #[.int .i64 (T + (glens L : Int))] 3) ∧ Ch w w' bt
set_option maxRecDepth 100000 in
set_option maxHeartbeats 4000000 in
theorem all_groups {w0 w : World} {A : Option Addr} {len c bt bn : Nat} {L : List Gp} {T n : Int} (hB : Below w0.heap.size w0 w) (h : Sl Gp.cs 1 w0 A len c L) (hok : ∀ v ∈ L, GpOk w0 v) (hlen : len ≤ 100000) (hbt : w0.heap.size ≤ bt) (xt : Bx w bt #[.int .i64 T] 3) (xn : Bx w bn #[.int .i64 n] 3) (hne : bn ≠ bt) (hT0 : 0 ≤ T) (hT1 : T ≤ 1000000) (r : Bool) (hr : Hid (L.all (fun v => groupB n v) = r)) :
    Calls Tryd.prog 129 #[.slice A len c, .func (.func 127) #[] #[.pointer (some ⟨bt, 0, none⟩), .pointer (some ⟨bn, 0, none⟩)]] w (TellsAllG w bt T L r) := by
  have H := Lib.hid h
  have HLN := Lib.hid h.1
  have HOK := Lib.hid hok
  have hll := Lib.hid (glens_le (K := 1000000) (fun v hv => (hok v hv).2))
  have hst : AG w0 w bt bn T n L len len (.int .i64 ((0 : Nat) : Int)) w := ⟨0, Nat.zero_le _, rfl, rfl, hB, Ch.refl _ _, by simpa [glens] using xt, xn, by simp⟩
  have HST := Lib.hid hst
  clear h hok hst xt xn hB
  go_enter Tryd.func129, Tryd.ntmps129
  go_wp2_with fail
  go_loopg [9] len (fun gk s wr => AG w0 w bt bn T n L len gk s wr)
  case atStart => exact HST.out
  case round =>
    clear HST
    obtain ⟨i, hi, hgk, rfl, hB, hc, xt, xn, hd⟩ := hrel
    have HGK := Lib.hid hgk
    have HD := Lib.hid hd
    have XT := Lib.hid xt
    have XN := Lib.hid xn
    have HC := Lib.hid hc
    clear hgk hd xt xn hc
    by_cases hlt : i < len
    · obtain ⟨b, off, rfl, hel⟩ := H.out.at Gp.cs_len (by omega) (by omega)
      obtain ⟨v, hv⟩ : ∃ v, L[i]? = some v := ⟨L[i]'(by rw [HLN.out]; exact hlt), List.getElem?_eq_getElem _⟩
      have hnd : ElA w0 b (off + i) v.cs := by have := hel i v hv; rwa [Nat.mul_one] at this
      have HTI := Lib.hid hv
      have HVO := Lib.hid (HOK.out v (List.mem_of_getElem? hv))
      have p0 := (hnd.below hB).c0 (u := .slice v.A v.n v.c) rfl
      have i1 : (i : Int) < (len : Int) := by omega
      have i2 : (0 : Int) ≤ (i : Int) := by omega
      have hlb := hll.out i
      have hvn := HVO.out.2
      clear hv hel hnd
      obtain ⟨rv, HRV⟩ : ∃ rv, Hid (groupB n v = rv) := ⟨_, Lib.hid rfl⟩
      go_wp2_with fail
      with_reducible refine (pool1_q hB HVO.out hbt XT.out XN.out hne (by omega) (by omega) rv HRV).mono ?_
      rintro e w2 ⟨rfl, x2, ch⟩
      have hB2 : Below w0.heap.size w0 w2 := hB.trans (ch.below hbt hB.size)
      replace XN := Lib.hid (ch.bx XN.out hne)
      replace HC := Lib.hid (HC.out.trans ch)
      have X2 := Lib.hid x2
      clear p0 x2 ch
      cases rv
      · obtain rfl : r = false := by rw [← hr.out]; exact all_no HTI.out HRV.out
        go_wp2_with fail
        go_ret
        exact ⟨rfl, (fun h => by cases h), HC.out⟩
      · go_wp2_with fail
        go_roundg (len - (i + 1))
        case measure => have := HGK.out; omega
        case rel => exact ⟨i + 1, by omega, rfl, by go_num, hB2, HC.out, by rw [glens_take HTI.out, Int.natCast_add, ← Int.add_assoc]; exact X2.out, XN.out, take_all HD.out HTI.out HRV.out⟩
    · obtain rfl : i = len := by omega
      have i1 : ¬ (i : Int) < (i : Int) := by omega
      obtain rfl : r = true := by rw [← hr.out]; exact all_yes HLN.out HD.out
      go_wp2_with fail
      go_ret
      exact ⟨rfl, fun _ => by have := XT.out; rwa [List.take_of_length_le (by rw [HLN.out]; exact Nat.le_refl _)] at this, HC.out⟩
end Go.Proofs.YtionhpangenhnaaDoor
