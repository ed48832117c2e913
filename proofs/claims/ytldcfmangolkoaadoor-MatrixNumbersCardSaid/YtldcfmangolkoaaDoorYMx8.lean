/-
  MatrixNumbers: the fixed examples of the chapter, what is no order, and what does not fit; the law answers true. No condition. Written by wip/gen/mx8.py.
  Plain laws of matrices: the turned one, Times and Left as sums of products. By hand.
  Rows of a turned matrix while they are made: plain. By hand.
  matrix.Turn. Written by wip/gen/mx4.py.
  matrix.Left. Written by wip/gen/lf1.py.
  Columns in memory: contracts of Times and Left with numbers. By hand.
  matrix.Right, tripwirelow.SameVecs. Written by wip/gen/mx5.py.
  The examples of layer 6; contracts of Inverse, Move, Turn with numbers. Written by wip/gen/mx6.py.
-/
import Derived.Test.YtldcfmangolkoaaDoorYMxT
import Derived.Test.YtldcfmangolkoaaDoorYMx2
import Derived.Test.YtldcfmangolkoaaDoorYRow
import Derived.Test.YtldcfmangolkoaaDoorYSo4
import Derived.Test.YtldcfmangolkoaaDoorYVm
import Derived.Test.YtldcfmangolkoaaDoorYZTab
namespace Go.Proofs.YtldcfmangolkoaaDoor

theorem pdot_by (Y : List (Int × Rat)) (q : Rat) : ∀ L : List (Int × Rat), pdot Y (L.map fun c => (c.1, c.2 * q)) = pdot Y L * q
 | [] => by rw [List.map_nil, pdot_nil_right, Rat.zero_mul]
 | c :: L => by rw [List.map_cons, pdot_cons_right, pdot_cons_right, pdot_by Y q L, Rat.add_mul, Rat.mul_assoc]
def trnE (C : List (List (Int × Rat))) : Nat → List (Int × Int × Rat)
 | 0 => []
 | k + 1 => trnE C k ++ (nrm (C.getD k [])).map fun x => ((k : Int), x.1, x.2)
def rowE (E : List (Int × Int × Rat)) (i : Int) : List (Int × Rat) := (E.filter fun e => decide (e.2.1 = i)).map fun e => (e.1, e.2.2)
def turnF (C : List (List (Int × Rat))) (i : Int) : List (Int × Rat) := rowE (trnE C C.length) i
theorem rowE_append (E F : List (Int × Int × Rat)) (i : Int) : rowE (E ++ F) i = rowE E i ++ rowE F i := by unfold rowE; rw [List.filter_append, List.map_append]
theorem rowE_one (e : Int × Int × Rat) (i : Int) : rowE [e] i = if e.2.1 = i then [(e.1, e.2.2)] else [] := by
 unfold rowE
 rw [List.filter_cons, List.filter_nil]
 by_cases h : e.2.1 = i
 ·rw [if_pos h, if_pos (by simpa using h)]; rfl
 ·rw [if_neg h, if_neg (by simpa using h)]; rfl
theorem rowE_col (k i : Int) : ∀ {L : List (Int × Rat)}, Nrm L → rowE (L.map fun x => (k, x.1, x.2)) i = if pget L i = 0 then [] else [(k, pget L i)]
 | [], _ => by rw [pget_nil, if_pos rfl]; rfl
 | x :: L, h => by
  have hr := Rise.cons.1 h.rise
  have e : rowE ((x :: L).map fun x => (k, x.1, x.2)) i = rowE [(k, x.1, x.2)] i ++ rowE (L.map fun x => (k, x.1, x.2)) i := by rw [← rowE_append]; rfl
  rw [e, rowE_one, rowE_col k i h.tail, pget_cons]
  by_cases hx : x.1 = i
  ·have h0 : pget L i = 0 := pget_none fun y hy => by have := hr.1 y hy; omega
   have hz := h.nz x List.mem_cons_self
   simp only
   rw [if_pos hx, if_pos h0, if_pos hx, h0, Rat.add_zero, if_neg hz]
   rfl
  ·simp only
   rw [if_neg hx, if_neg hx]
   rfl
theorem trn_step (C : List (List (Int × Rat))) (k : Nat) (i : Int) : rowE (trnE C (k + 1)) i = rowE (trnE C k) i ++ (if pget (C.getD k []) i = 0 then [] else [((k : Int), pget (C.getD k []) i)]) := by
 show rowE (trnE C k ++ _) i = _
 rw [rowE_append, rowE_col _ _ (nrm_nrm _), nrm_get]
def turnT (C : List (List (Int × Rat))) (n : Nat) : List (List (Int × Rat)) := (List.range n).map fun (i : Nat) => turnF C (i : Int)
theorem pdot_tot {Q : List (Int × Rat)} {K : Nat} (hQ : ∀ a, sz (pget Q a) ≤ K) : ∀ P : List (Int × Rat), sz (pdot P Q) ≤ 1 + wtot P + P.length * K
 | [] => Nat.le_trans sz_zero (by omega)
 | x :: P => by
  have h1 := pdot_tot hQ P
  have h2 := sz_add (sz_mul (Nat.le_refl (sz x.2)) (hQ x.1)) (Nat.le_refl (sz (pdot P Q)))
  rw [pdot_cons, List.length_cons, Nat.add_mul, Nat.one_mul]
  show _ ≤ 1 + (sz x.2 + 1 + wtot P) + _
  omega
end Go.Proofs.YtldcfmangolkoaaDoor
namespace Go.Proofs.YtldcfmangolkoaaDoor
open Go.RowKit Tw

def RowsE (V : List Vc) (E : List (Int × Int × Rat)) : Prop := ∀ (a : Nat) (v : Vc), V[a]? = some v → prs v.L = rowE E (a : Int)
def colE (k : Nat) (L : List (Int × Rat)) : List (Int × Int × Rat) := L.map fun x => ((k : Int), x.1, x.2)
theorem colE_snoc (k : Nat) {T : List Tm} {j : Nat} {x : Tm} (h : T[j]? = some x) : colE k (prs (T.take (j + 1))) = colE k (prs (T.take j)) ++ [((k : Int), x.at_, x.x.q)] := by
 rw [take_snoc h, prs_append]
 exact List.map_append
theorem RowsE.start (n : Nat) : RowsE (List.replicate n zVc) [] := fun a v hv => by rw [List.eq_of_mem_replicate (List.mem_of_getElem? hv)]; rfl
theorem RowsE.skip {V : List Vc} {E : List (Int × Int × Rat)} (h : RowsE V E) {k at_ : Int} {q : Rat} (ho : at_ < 0 ∨ (V.length : Int) ≤ at_) : RowsE V (E ++ [(k, at_, q)]) := fun a v hv => by
 have ha := (List.getElem?_eq_some_iff.1 hv).1
 rw [rowE_append, rowE_one, if_neg (by simp only; omega), List.append_nil]
 exact h a v hv
theorem RowsE.step {V : List Vc} {E : List (Int × Int × Rat)} (h : RowsE V E) {a : Nat} {u : Vc} (hu : V[a]? = some u) (H : Option Addr) (m c : Nat) (t : Tm) (k : Int) : RowsE (V.set a ⟨H, m, c, u.L ++ [⟨k, t.x⟩]⟩) (E ++ [(k, (a : Int), t.x.q)]) := fun b v hv => by
 have ha := (List.getElem?_eq_some_iff.1 hu).1
 rw [rowE_append, rowE_one]
 by_cases e : b = a
 ·subst e
  rw [List.getElem?_set_self ha, Option.some.injEq] at hv
  subst hv
  rw [if_pos rfl, prs_append, h b u hu]
  rfl
 ·rw [List.getElem?_set_ne (fun e2 => e e2.symm)] at hv
  rw [if_neg (by simp only; omega), List.append_nil]
  exact h b v hv
theorem RowsE.done {V : List Vc} {C : List (List (Int × Rat))} {n : Nat} (h : RowsE V (trnE C C.length)) (hl : V.length = n) : V.map (fun v => prs v.L) = turnT C n := by
 apply List.ext_getElem?
 intro a
 unfold turnT
 rw [List.getElem?_map, List.getElem?_map]
 by_cases ha : a < n
 ·rw [List.getElem?_range ha, List.getElem?_eq_getElem (by omega)]
  simp only [Option.map_some]
  rw [h a _ (List.getElem?_eq_getElem (by omega))]
  rfl
 ·rw [List.getElem?_eq_none (by omega), List.getElem?_eq_none (by rw [List.length_range]; omega)]
  rfl
theorem trnE_col {C : List (List (Int × Rat))} {k : Nat} {c : List (Int × Rat)} (h : C[k]? = some c) : trnE C (k + 1) = trnE C k ++ colE k (nrm c) := by
 show trnE C k ++ _ = _
 rw [List.getD_eq_getElem?_getD, h]
 rfl
theorem trn_len (C : List (List (Int × Rat))) (i : Int) : ∀ k, (rowE (trnE C k) i).length ≤ k
 | 0 => Nat.le_refl _
 | k + 1 => by
  have := trn_len C i k
  rw [trn_step, List.length_append]
  split
  ·simp only [List.length_nil]; omega
  ·simp only [List.length_cons, List.length_nil]; omega
theorem RowsE.small {V : List Vc} {C : List (List (Int × Rat))} {k a : Nat} {L : List (Int × Rat)} {u : Vc} (h : RowsE V (trnE C k ++ colE k L)) (hu : V[a]? = some u) : u.L.length ≤ k + L.length := by
 have h1 := congrArg List.length (h a u hu)
 have h2 := trn_len C (a : Int) k
 have h3 : (rowE (colE k L) (a : Int)).length ≤ L.length := by
  unfold rowE colE
  rw [List.length_map]
  refine Nat.le_trans (List.length_filter_le _ _) ?_
  rw [List.length_map]
  exact Nat.le_refl _
 rw [prs_len, rowE_append, List.length_append] at h1
 omega
theorem OnT.one {w : World} {M : Nat} {s s' : Bool} {A A' : Option Addr} {c l c' l' : Nat} {q : Rat} (at_ : Int) (h : RN w s A c l s' A' c' l' q) (hs : sz q + 1 ≤ M) : OnT w [⟨at_, ⟨s, A, c, l, s', A', c', l', q, true⟩⟩] (fun _ => M) := fun t ht => by
 obtain rfl := List.mem_singleton.1 ht
 exact ⟨h, rfl, hs⟩
end Go.Proofs.YtldcfmangolkoaaDoor
namespace Go.Proofs.YtldcfmangolkoaaDoor
open Go.RowKit Tw

def TellsTu (w : World) (C : List (List (Int × Rat))) (m M : Nat) (e : Ending) (w' : World) : Prop :=
 ∃ (g : Nat) (V : List Vc), e = .returned (.tuple #[.slice (some ⟨g, 0, none⟩) m m, .int .i64 0]) ∧ Sl Vc.cs 1 w' (some ⟨g, 0, none⟩) m m V ∧ (∀ v ∈ V, CN w' v M) ∧ V.map (fun v => prs v.L) = turnT C m ∧ Below w.heap.size w w'
def TU1 (w : World) (g m M n : Nat) (C : List (List (Int × Rat))) (gk : Nat) (s : Value) (wr : World) : Prop :=
 ∃ (i : Nat) (V : List Vc), i ≤ n ∧ n - i = gk ∧ s = .int .i64 (i : Int) ∧ TS wr w.heap.size g m (.slice none 0 0) 0 [] V M ∧ RowsE V (trnE C i) ∧ Below w.heap.size w wr
def TU2 (w : World) (g m M nm : Nat) (X : Value) (T : List Tm) (E : List (Int × Int × Rat)) (i gk : Nat) (s : Value) (wr : World) : Prop :=
 ∃ (j : Nat) (V : List Vc), j ≤ nm ∧ nm - j = gk ∧ s = .int .i64 (j : Int) ∧ TS wr w.heap.size g m X nm (flat Tm.cs T) V M ∧ RowsE V (E ++ colE i (prs (T.take j))) ∧ OnT wr T (fun _ => M) ∧ Below w.heap.size w wr
set_option maxRecDepth 100000 in
set_option maxHeartbeats 4000000 in
theorem turn_no {w : World} {A : Option Addr} {n c : Nat} (k : Int) (hk : k < 0 ∨ 65536 < k) :
  Calls Tryd.prog 25 #[.slice A n c, .int .i64 k] w fun e w' => e = .returned (.tuple #[.slice none 0 0, .int .i64 2]) ∧ w = w' := by
 by_cases g1 : k < 0
 ·clear hk
  go_enter Tryd.func25, Tryd.ntmps25
  go_wp2_with fail
  go_ret2
  exact ⟨rfl, rfl⟩
 ·have g2 : 65536 < k := by omega
  clear hk
  go_enter Tryd.func25, Tryd.ntmps25
  go_wp2_with fail
  go_ret2
  exact ⟨rfl, rfl⟩
set_option maxRecDepth 100000 in
set_option maxHeartbeats 8000000 in
theorem turnV_q {w : World} {A : Option Addr} {n c m M : Nat} {CL : List Vc} (h : Sl Vc.cs 1 w A n c CL) (hcl : Hid (∀ v ∈ CL, GV w v.A v.n v.c (prs v.L) M ∧ v.n ≤ 1000000)) (hM : M ≤ 18000) (hn : n ≤ 1000000) (hm : m ≤ 65536) (hT : Hid (Tab w)) :
  Calls Tryd.prog 25 #[.slice A n c, .int .i64 (m : Int)] w (TellsTu w (CL.map fun v => prs v.L) m M) := by
 have H := Lib.hid h
 have HLN := Lib.hid h.1
 have g1 : ¬ (m : Int) < 0 := by omega
 have g2 : ¬ 65536 < (m : Int) := by omega
 clear h
 go_enter Tryd.func25, Tryd.ntmps25
 go_wp2_with (at_make; refine And.left (b := True) ?_)
 refine ⟨?_, trivial⟩
 refine Elt.makeN elt_vcs zVc (fun i z h1 h2 => vc_zero h1 h2) rfl _ _ rfl .i64 .i64 m rfl rfl (by omega) w.heap.size (Nat.le_refl _) ?_
 intro g w1 ho1 b1
 have HTS := Lib.hid (TS.start (M := M) ho1)
 have HB1 := Lib.hid b1
 clear ho1 b1
 go_wp2_with fail
 go_loopg [21] n (fun gk s wr => TU1 w g m M n (CL.map fun v => prs v.L) gk s wr)
 case atStart => exact ⟨0, _, Nat.zero_le _, rfl, rfl, HTS.out, RowsE.start _, HB1.out⟩
 case round =>
  clear HTS HB1
  obtain ⟨i, V, hi, hgk, rfl, hts, hrw, hB⟩ := hrel
  have HGK := Lib.hid hgk
  have HRW := Lib.hid hrw
  have HTS := Lib.hid hts
  clear hgk hrw hts
  by_cases hlt : i < n
  ·obtain ⟨b, off, rfl, hel⟩ := H.out.at Vc.cs_len (by omega) (by omega)
   obtain ⟨v, hv⟩ : ∃ v, CL[i]? = some v := ⟨CL[i]'(by rw [HLN.out]; exact hlt), List.getElem?_eq_getElem _⟩
   have hnd : ElA w b (off + i) v.cs := by have := hel i v hv; rwa [Nat.mul_one] at this
   have hcv := hcl.out v (List.mem_of_getElem? hv)
   have HTC := Lib.hid (trnE_col (C := CL.map fun v => prs v.L) (k := i) (c := prs v.L) (by rw [List.getElem?_map, hv]; rfl))
   have hnq := normO_q (hcv.1.below hB) (by omega) hcv.2 (Lib.hid (hT.out.below hB))
   have HPL := Lib.hid hcv.1.len
   have hvn := hcv.2
   have p0 := (hnd.below hB).c0 (u := .slice v.A v.n v.c) rfl
   have i1 : (i : Int) < (n : Int) := by omega
   have i2 : (0 : Int) ≤ (i : Int) := by omega
   clear hel hv hcv hnd
   go_wp2_with fail
   with_reducible refine hnq.mono ?_
   rintro e w2 ⟨Am, nm, cm, T, rfl, ho2, on2, ep, b2⟩
   have HTS2 := Lib.hid (HTS.out.beside b2 hB.size ho2)
   have HN2 := Lib.hid on2
   have HEP := Lib.hid ep
   have HTL := Lib.hid (ho2.eltn elt_vec (by omega))
   have HB2 := Lib.hid (below_trans hB b2)
   have hnm : nm ≤ 1000000 := by
    have h1 := nrm_len (prs v.L)
    rw [← ep, prs_len, ho2.eltn elt_vec (by omega)] at h1
    have := HPL.out
    omega
   clear hnq ho2 on2 ep b2 p0 hB
   go_wp2_with fail
   go_loopg [29] nm (fun gk s wr => TU2 w g m M nm (.slice Am nm cm) T (trnE (CL.map fun v => prs v.L) i) i gk s wr)
   case atStart => exact ⟨0, V, Nat.zero_le _, rfl, rfl, HTS2.out, by rw [List.take_zero]; show RowsE V (trnE (CL.map fun v => prs v.L) i ++ []); rw [List.append_nil]; exact HRW.out, HN2.out, HB2.out⟩
   case round =>
    clear HTS HTS2 HN2 HB2 HRW
    obtain ⟨j, V, hj, hgj, rfl, hts, hrw, hon, hB⟩ := hrel
    have HGJ := Lib.hid hgj
    have HRW := Lib.hid hrw
    clear hgj hrw
    by_cases hlj : j < nm
    ·obtain ⟨eb, offe, rfl, hel⟩ := (hts.xo.sl' elt_vec HTL.out).at Tm.cs_len (by omega) (by omega)
     obtain ⟨x, hx⟩ : ∃ x, T[j]? = some x := ⟨T[j]'(by rw [HTL.out]; exact hlj), List.getElem?_eq_getElem _⟩
     have hnd := hel j x hx
     have HCS := Lib.hid (colE_snoc i hx)
     have HXN := Lib.hid (hon x (List.mem_of_getElem? hx))
     have HVL := Lib.hid hts.len
     have j1 : (j : Int) < (nm : Int) := by omega
     have j2 : (0 : Int) ≤ (j : Int) := by omega
     clear hel hx
     by_cases k1 : x.at_ < 0
     ·have HR2 : Hid (RowsE V (trnE (CL.map fun v => prs v.L) i ++ colE i (prs (T.take (j + 1))))) := Lib.hid (by rw [HCS.out, ← List.append_assoc]; exact HRW.out.skip (.inl k1))
      have g3 : ¬ 0 ≤ x.at_ := by omega
      have Bz := Below.refl wr.heap.size wr
      have p50_0 := (hnd.below Bz).c0 (u := .int .i64 x.at_) rfl
      have p50_1 := (hnd.below Bz).at 1 (.bool x.x.s) rfl
      have p50_2 := (hnd.below Bz).at 2 (.slice x.x.A x.x.l x.x.c) rfl
      have p50_3 := (hnd.below Bz).at 3 (.bool x.x.s') rfl
      have p50_4 := (hnd.below Bz).at 4 (.slice x.x.A' x.x.l' x.x.c') rfl
      go_upto_region 10 with (fail)
      obtain ⟨V11, hW, x0, hN⟩ := boxes1 wr #[.int .i64 x.at_, .bool x.x.s, .slice x.x.A x.x.l x.x.c, .bool x.x.s', .slice x.x.A' x.x.l' x.x.c'] 69
      rw [← hW]
      clear hW
      obtain ⟨v0, hb0⟩ : ∃ b, b = wr.heap.size := ⟨_, rfl⟩
      rw [← hb0] at x0 ⊢
      have ow_0 : w.heap.size ≤ v0 := by have := hB.size; have := Bz.size; omega
      replace hon := hon.below hN
      replace hts := hts.below hN
      replace hB := below_trans (below_trans hB Bz) hN
      have HX0 := Lib.hid x0
      clear x0 hN Bz hb0
      have Bz := Below.refl V11.heap.size V11
      clear p50_0 p50_1 p50_2 p50_3 p50_4
      have p0_0 := (HX0.out.below Bz).cell 0 (.int .i64 x.at_) rfl
      go_wp2_with fail
      go_roundg (nm - (j + 1))
      case measure => have := HGJ.out; omega
      case rel => exact ⟨j + 1, _, by omega, rfl, by go_num, TS.below hts (by go_grown), HR2.out, OnT.below hon (by go_grown), below_trans (below_trans hB Bz) (by go_grown)⟩
     ·by_cases k2 : (m : Int) ≤ x.at_
      ·have HR2 : Hid (RowsE V (trnE (CL.map fun v => prs v.L) i ++ colE i (prs (T.take (j + 1))))) := Lib.hid (by rw [HCS.out, ← List.append_assoc]; exact HRW.out.skip (.inr (by rw [HVL.out]; exact k2)))
       have g3 : 0 ≤ x.at_ := by omega
       have g4 : ¬ x.at_ < (m : Int) := by omega
       have Bz := Below.refl wr.heap.size wr
       have p50_0 := (hnd.below Bz).c0 (u := .int .i64 x.at_) rfl
       have p50_1 := (hnd.below Bz).at 1 (.bool x.x.s) rfl
       have p50_2 := (hnd.below Bz).at 2 (.slice x.x.A x.x.l x.x.c) rfl
       have p50_3 := (hnd.below Bz).at 3 (.bool x.x.s') rfl
       have p50_4 := (hnd.below Bz).at 4 (.slice x.x.A' x.x.l' x.x.c') rfl
       go_upto_region 10 with (fail)
       obtain ⟨V11, hW, x0, hN⟩ := boxes1 wr #[.int .i64 x.at_, .bool x.x.s, .slice x.x.A x.x.l x.x.c, .bool x.x.s', .slice x.x.A' x.x.l' x.x.c'] 69
       rw [← hW]
       clear hW
       obtain ⟨v0, hb0⟩ : ∃ b, b = wr.heap.size := ⟨_, rfl⟩
       rw [← hb0] at x0 ⊢
       have ow_0 : w.heap.size ≤ v0 := by have := hB.size; have := Bz.size; omega
       replace hon := hon.below hN
       replace hts := hts.below hN
       replace hB := below_trans (below_trans hB Bz) hN
       have HX0 := Lib.hid x0
       clear x0 hN Bz hb0
       have Bz := Below.refl V11.heap.size V11
       clear p50_0 p50_1 p50_2 p50_3 p50_4
       have p0_0 := (HX0.out.below Bz).cell 0 (.int .i64 x.at_) rfl
       go_wp2_with fail
       go_roundg (nm - (j + 1))
       case measure => have := HGJ.out; omega
       case rel => exact ⟨j + 1, _, by omega, rfl, by go_num, TS.below hts (by go_grown), HR2.out, OnT.below hon (by go_grown), below_trans (below_trans hB Bz) (by go_grown)⟩
      ·have g3 : 0 ≤ x.at_ := by omega
       have g4 : x.at_ < (m : Int) := by omega
       obtain ⟨u, hu⟩ : ∃ u, V[x.at_.toNat]? = some u := ⟨V[x.at_.toNat]'(by rw [HVL.out]; omega), List.getElem?_eq_getElem _⟩
       have HVU := Lib.hid hu
       have hou : OwnR wr w.heap.size 69 5 (.slice u.A u.n u.c) u.n (flat Tm.cs u.L) := (hts.row u (List.mem_of_getElem? hu)).1
       have hout := hts.out
       have apGU : Ap (.slice (some ⟨g, 0, none⟩) m m) (.slice u.A u.n u.c) := (hts.og u (List.mem_of_getElem? hu)).1
       have apUG := apGU.symm
       have hun : u.n ≤ i + nm := by
        have h1 := HRW.out.small hu
        rw [hou.eltn elt_vec (by omega), prs_len, List.length_take] at h1
        omega
       have hrx := HXN.out.1
       have HSX := Lib.hid HXN.out.2.2
       have HR2 : Hid (∀ (H : Option Addr) (k c : Nat), RowsE (V.set x.at_.toNat ⟨H, k, c, u.L ++ [⟨(i : Int), ⟨x.x.s, x.x.A, x.x.c, x.x.l, x.x.s', x.x.A', x.x.c', x.x.l', x.x.q, true⟩⟩]⟩) (trnE (CL.map fun v => prs v.L) i ++ colE i (prs (T.take (j + 1))))) := Lib.hid (fun H k c => by
        have h9 := HRW.out.step hu H k c ⟨0, ⟨x.x.s, x.x.A, x.x.c, x.x.l, x.x.s', x.x.A', x.x.c', x.x.l', x.x.q, true⟩⟩ (i : Int)
        rw [HCS.out, ← List.append_assoc]
        rw [Int.toNat_of_nonneg g3] at h9
        exact h9)
       clear hu
       have Bz := Below.refl wr.heap.size wr
       have p50_0 := (hnd.below Bz).c0 (u := .int .i64 x.at_) rfl
       have p50_1 := (hnd.below Bz).at 1 (.bool x.x.s) rfl
       have p50_2 := (hnd.below Bz).at 2 (.slice x.x.A x.x.l x.x.c) rfl
       have p50_3 := (hnd.below Bz).at 3 (.bool x.x.s') rfl
       have p50_4 := (hnd.below Bz).at 4 (.slice x.x.A' x.x.l' x.x.c') rfl
       go_upto_region 10 with (fail)
       obtain ⟨V11, hW, x0, hN⟩ := boxes1 wr #[.int .i64 x.at_, .bool x.x.s, .slice x.x.A x.x.l x.x.c, .bool x.x.s', .slice x.x.A' x.x.l' x.x.c'] 69
       rw [← hW]
       clear hW
       obtain ⟨v0, hb0⟩ : ∃ b, b = wr.heap.size := ⟨_, rfl⟩
       rw [← hb0] at x0 ⊢
       have ow_0 : w.heap.size ≤ v0 := by have := hB.size; have := Bz.size; omega
       have nv0_own := OwnR.off' (b := v0) hou (by omega)
       have nv0_out := OwnR.off' (b := v0) hout (by omega)
       replace hon := hon.below hN
       replace hout := hout.below hN
       replace hou := hou.below hN
       replace hrx := hrx.below hN
       replace hts := hts.below hN
       replace hB := below_trans (below_trans hB Bz) hN
       have HX0 := Lib.hid x0
       clear x0 hN Bz hb0
       have Bz := Below.refl V11.heap.size V11
       clear p50_0 p50_1 p50_2 p50_3 p50_4
       have p0_0 := (HX0.out.below Bz).cell 0 (.int .i64 x.at_) rfl
       have p0_1 := (HX0.out.below Bz).cell 1 (.bool x.x.s) rfl
       have p0_2 := (HX0.out.below Bz).cell 2 (.slice x.x.A x.x.l x.x.c) rfl
       have p0_3 := (HX0.out.below Bz).cell 3 (.bool x.x.s') rfl
       have p0_4 := (HX0.out.below Bz).cell 4 (.slice x.x.A' x.x.l' x.x.c') rfl
       have p51_0 := vc_cell hout HVU.out
       have f51_0 := hout.frozen x.at_.toNat
       have y51 := hout.blk.1
       go_wp2_with fail
       (try simp only [List.append_eq, List.cons_append, List.nil_append])
       refine wp_region_plan (.pure 0 (.pure 1 (.take 2 (.pure 3 (.pure 4 (.take 5 (.pure 6 (.take 7 (.pure 8 (.pure 9 (.take 10 (.pure 11 (.only 12 (.only 13 (.pure 14 (.only 15 .done)))))))))))))))) [15] (fun w' => w'.cell? ⟨v0, 0, none⟩ = some (.int .i64 x.at_) ∧ w'.cell? ⟨v0, 1, none⟩ = some (.bool x.x.s) ∧ w'.cell? ⟨v0, 2, none⟩ = some (.slice x.x.A x.x.l x.x.c) ∧ w'.cell? ⟨v0, 3, none⟩ = some (.bool x.x.s') ∧ w'.cell? ⟨v0, 4, none⟩ = some (.slice x.x.A' x.x.l' x.x.c') ∧ w'.cell? ⟨g, x.at_.toNat, none⟩ = some (.slice u.A u.n u.c)) (by kernel_rfl) (by kernel_rfl) ⟨p0_0, p0_1, p0_2, p0_3, p0_4, p51_0⟩ ?_
       refine wpPlan_pure (o := ⟨some 42, _, _, _, _, _⟩) rfl rfl (fun w' => by go_simp <;> with_reducible rfl) ?_
       try simp only [pUt, pLt, pZt, pSt]
       refine wpPlan_pure (o := ⟨some 43, _, _, _, _, _⟩) rfl rfl (fun w' => by go_simp <;> with_reducible rfl) ?_
       try simp only [pUt, pLt, pZt, pSt]
       refine wpPlan_take (o := ⟨some 44, _, _, _, _, _⟩) rfl rfl (fun w' ⟨p0_0, p0_1, p0_2, p0_3, p0_4, p51_0⟩ => by go_simp <;> with_reducible rfl) ?_
       try simp only [pUt, pLt, pZt, pSt]
       refine wpPlan_pure (o := ⟨some 45, _, _, _, _, _⟩) rfl rfl (fun w' => by go_simp <;> with_reducible rfl) ?_
       try simp only [pUt, pLt, pZt, pSt]
       refine wpPlan_pure (o := ⟨some 46, _, _, _, _, _⟩) rfl rfl (fun w' => by go_simp <;> with_reducible rfl) ?_
       try simp only [pUt, pLt, pZt, pSt]
       refine wpPlan_take (o := ⟨some 47, _, _, _, _, _⟩) rfl rfl (fun w' ⟨p0_0, p0_1, p0_2, p0_3, p0_4, p51_0⟩ => by go_simp <;> with_reducible rfl) ?_
       try simp only [pUt, pLt, pZt, pSt]
       refine wpPlan_pure (o := ⟨some 48, _, _, _, _, _⟩) rfl rfl (fun w' => by go_simp <;> with_reducible rfl) ?_
       try simp only [pUt, pLt, pZt, pSt]
       refine wpPlan_take (o := ⟨some 49, _, _, _, _, _⟩) rfl rfl (fun w' ⟨p0_0, p0_1, p0_2, p0_3, p0_4, p51_0⟩ => by go_simp <;> with_reducible rfl) ?_
       try simp only [pUt, pLt, pZt, pSt]
       refine wpPlan_pure (o := ⟨some 50, _, _, _, _, _⟩) rfl rfl (fun w' => by go_simp <;> with_reducible rfl) ?_
       try simp only [pUt, pLt, pZt, pSt]
       refine wpPlan_pure (o := ⟨some 51, _, _, _, _, _⟩) rfl rfl (fun w' => by go_simp <;> with_reducible rfl) ?_
       try simp only [pUt, pLt, pZt, pSt]
       refine wpPlan_take (o := ⟨some 52, _, _, _, _, _⟩) rfl rfl (fun w' ⟨p0_0, p0_1, p0_2, p0_3, p0_4, p51_0⟩ => by go_simp <;> with_reducible rfl) ?_
       try simp only [pUt, pLt, pZt, pSt]
       refine wpPlan_pure (o := ⟨some 53, _, _, _, _, _⟩) rfl rfl (fun w' => by go_simp <;> with_reducible rfl) ?_
       try simp only [pUt, pLt, pZt, pSt]
       refine wpPlan_call (o := ⟨some 54, _, _, _, _, _⟩) rfl rfl (fun K hK => ?_)
       go_simp
       refine hK.out _ _ ⟨(cell_al p0_0), (cell_al p0_1), (cell_al p0_2), (cell_al p0_3), (cell_al p0_4), (cell_al p51_0)⟩ (fun _ => ?_)
       try simp only [pUt, pLt, pZt, pSt]
       clear hK K
       refine wpPlan_call (o := ⟨some 55, _, _, _, _, _⟩) rfl rfl (fun K hK => ?_)
       obtain ⟨V12, hW, x1, hN⟩ := boxes1 V11 #[.int .i64 (i : Int), .bool x.x.s, .slice x.x.A x.x.l x.x.c, .bool x.x.s', .slice x.x.A' x.x.l' x.x.c'] 69
       rw [← hW]
       clear hW
       obtain ⟨v1, hb1⟩ : ∃ b, b = V11.heap.size := ⟨_, rfl⟩
       rw [← hb1] at x1 ⊢
       have o0_1 : v0 < v1 := by have := (HX0.out.below Bz).lt; omega
       have ow_1 : w.heap.size ≤ v1 := by have := hB.size; have := Bz.size; omega
       have nv1_own := OwnR.off' (b := v1) hou (by omega)
       have nv1_out := OwnR.off' (b := v1) hout (by omega)
       replace hon := hon.below hN
       replace hout := hout.below hN
       replace hou := hou.below hN
       replace hrx := hrx.below hN
       replace hts := hts.below hN
       replace hB := below_trans (below_trans hB Bz) hN
       replace HX0 := Lib.hid ((HX0.out.below Bz).below hN)
       have HX1 := Lib.hid x1
       clear x1 hN Bz hb1
       have Bz := Below.refl V12.heap.size V12
       clear p0_0 p0_1 p0_2 p0_3 p0_4 p51_0 f51_0 y51
       have HTS1 := Lib.hid (TS.below hts (below_trans Bz (by go_grown)))
       have hdr : V12.drew.heap.size = V12.heap.size := rfl
       have hdr2 : V12.drew.drew.heap.size = V12.heap.size := rfl
       refine Elt.wp elt_vec _ _ rfl (w.heap.size) (.slice u.A u.n u.c) (u.n) (u.L) rfl hou (.slice (some ⟨v1, 0, none⟩) 1 1) (1) ([⟨(i : Int), ⟨x.x.s, x.x.A, x.x.c, x.x.l, x.x.s', x.x.A', x.x.c', x.x.l', x.x.q, true⟩⟩]) rfl (From.one (HX1.out.below (below_trans Bz (by go_grown))) (⟨(i : Int), ⟨x.x.s, x.x.A, x.x.c, x.x.l, x.x.s', x.x.A', x.x.c', x.x.l', x.x.q, true⟩⟩) rfl (elt_vec.len _)) (by omega) (by have := hB.size; have := Bz.size; omega) ?_
       intro H11 c11 w11 ho11 hg11
       replace hB := (below_trans (below_trans hB Bz) (by go_grown)).trans (hg11.below (by have := hB.size; have := Bz.size; omega) (fun g hg => by have := hou.base g hg; omega))
       replace HX0 := Lib.hid (hg11.bx (HX0.out.below (below_trans Bz (by go_grown))) nv0_own)
       clear HX1
       have apGU' := hg11.ap hout apGU
       have apUG' := apGU'.symm
       replace hout := (OwnR.below hout (by go_grown)).grown hg11 apGU
       clear apGU apUG
       have apGU := apGU'
       have apUG := apUG'
       clear apGU' apUG'
       clear hdr hdr2
       replace hon := hon.k hg11.k
       replace hrx := hrx.k hg11.k
       clear Bz
       have Bz := Below.refl w11.heap.size w11
       have p0_0 := (HX0.out.below Bz).cell 0 (.int .i64 x.at_) rfl
       have p0_1 := (HX0.out.below Bz).cell 1 (.bool x.x.s) rfl
       have p0_2 := (HX0.out.below Bz).cell 2 (.slice x.x.A x.x.l x.x.c) rfl
       have p0_3 := (HX0.out.below Bz).cell 3 (.bool x.x.s') rfl
       have p0_4 := (HX0.out.below Bz).cell 4 (.slice x.x.A' x.x.l' x.x.c') rfl
       have p51_0 := vc_cell hout HVU.out
       have f51_0 := hout.frozen x.at_.toNat
       have y51 := hout.blk.1
       refine hK.out _ _ ⟨p0_0, p0_1, p0_2, p0_3, p0_4, p51_0⟩ (fun _ => ?_)
       try simp only [pUt, pLt, pZt, pSt]
       clear hK K
       refine wpPlan_pure (o := ⟨some 56, _, _, _, _, _⟩) rfl rfl (fun w' => by go_simp <;> with_reducible rfl) ?_
       try simp only [pUt, pLt, pZt, pSt]
       refine wpPlan_late (o := ⟨none, _, _, _, _, _⟩) rfl rfl (by decide) (fun K hK => ?_)
       go_simp
       refine hK.out _ _ ?_
       try simp only [Act.put, List.setIfInBounds_toArray, List.set_cons_zero, List.set_cons_succ]
       clear hK K
       obtain ⟨V13, hV, hts2, hg2⟩ := (TS.below HTS1.out (by go_grown)).step HVU.out ho11 hg11 (OnT.one (i : Int) (RN.below hrx (by go_grown)) HSX.out)
       rw [← hV]
       clear hV
       replace hB := (below_trans hB Bz).trans (hg2.below (by have := hB.size; have := Bz.size; omega) (fun g' hg' => (TS.out hts2).base g' hg'))
       replace hon := hon.k hg2.k
       clear hg2 hg11 Bz hout
       have Bz := Below.refl V13.heap.size V13
       clear HX0
       clear p0_0 p0_1 p0_2 p0_3 p0_4 p51_0 f51_0 y51
       refine wpPlan_done ?_
       go_wp2_with fail
       go_roundg (nm - (j + 1))
       case measure => have := HGJ.out; omega
       case rel => exact ⟨j + 1, _, by omega, rfl, by go_num, TS.below hts2 (by go_grown), HR2.out _ _ _, OnT.below hon (by go_grown), below_trans (below_trans hB Bz) (by go_grown)⟩
    ·obtain rfl : j = nm := by omega
     have j1 : ¬ (j : Int) < (j : Int) := by omega
     have HRE : Hid (RowsE V (trnE (CL.map fun v => prs v.L) (i + 1))) := Lib.hid (by
      rw [HTC.out, ← HEP.out]
      have h9 := HRW.out
      rwa [List.take_of_length_le (by rw [HTL.out]; exact Nat.le_refl _)] at h9)
     have HTA := Lib.hid hts.alone
     clear hts hon
     go_wp2_with fail
     go_roundg (n - (i + 1))
     case measure => have := HGK.out; omega
     case rel => exact ⟨i + 1, V, by omega, rfl, by go_num, HTA.out.below (by go_grown), HRE.out, below_trans hB (by go_grown)⟩
  ·obtain rfl : i = n := by omega
   have i1 : ¬ (i : Int) < (i : Int) := by omega
   have hcn := HTS.out.cn
   have HC1 := Lib.hid hcn.1
   have HC2 := Lib.hid hcn.2
   have HDN := Lib.hid (RowsE.done (C := CL.map fun v => prs v.L) (by rw [List.length_map, HLN.out]; exact HRW.out) HTS.out.len)
   clear hcn
   go_wp2_with fail
   go_ret2
   exact ⟨g, V, rfl, HC1.out, HC2.out, HDN.out, hB⟩
end Go.Proofs.YtldcfmangolkoaaDoor
namespace Go.Proofs.YtldcfmangolkoaaDoor
open Go.RowKit Tw

theorem elt_frs : Elt Fr.cs 4 35 27 := Elt.of (.agg #[.bool false, .slice none 0 0, .bool false, .slice none 0 0]) 64 Tryd.underlying35 (by kernel_rfl) (by omega) (by kernel_rfl) (nou_list (by kernel_rfl)) Fr.cs_len
 (fun x u hu => by simp [Fr.cs] at hu; rcases hu with rfl | rfl | rfl | rfl <;> rfl) (fun x u hu n => by simp [Fr.cs] at hu; rcases hu with rfl | rfl | rfl | rfl <;> simp)
theorem fr_zero {i : TypeInfo} {z : Value} (h : Tryd.prog.info? 27 = some i) (hz : i.zero = some z) : z.cells.toList = Fr.cs zFr := by
 have h1 : (Tryd.prog.info? 27).map (fun i => i.zero) = some (some (.agg #[.bool false, .slice none 0 0, .bool false, .slice none 0 0])) := by kernel_rfl
 rw [h, Option.map_some, hz] at h1
 obtain rfl : z = .agg #[.bool false, .slice none 0 0, .bool false, .slice none 0 0] := by simpa using h1
 rfl
theorem fr_store {w : World} {B g n cap i : Nat} {L : List Fr} (h : OwnR w B 27 4 (.slice (some ⟨g, 0, none⟩) n cap) n (flat Fr.cs L)) {y : Fr} (hy : L[i]? = some y) (x : Fr) :
  ∃ V, V = (((w.setCell ⟨g, i * 4, none⟩ (.bool x.s)).setCell ⟨g, i * 4 + 1, none⟩ (.slice x.A x.l x.c)).setCell ⟨g, i * 4 + 2, none⟩ (.bool x.s')).setCell ⟨g, i * 4 + 3, none⟩ (.slice x.A' x.l' x.c') ∧
   OwnR V B 27 4 (.slice (some ⟨g, 0, none⟩) n cap) n (flat Fr.cs (L.set i x)) ∧ Grew w V (.slice (some ⟨g, 0, none⟩) n cap) (.slice (some ⟨g, 0, none⟩) n cap) := by
 have := elt_frs.sets h hy (y := x) [(0, .bool x.s), (1, .slice x.A x.l x.c), (2, .bool x.s'), (3, .slice x.A' x.l' x.c')] (fun p hp => by simp at hp; rcases hp with rfl | rfl | rfl | rfl <;> exact ⟨by simp, by simp⟩) rfl
 exact ⟨_, rfl, this⟩
theorem fr_0 {w : World} {B g n cap i : Nat} {L : List Fr} (h : OwnR w B 27 4 (.slice (some ⟨g, 0, none⟩) n cap) n (flat Fr.cs L)) {y : Fr} (hy : L[i]? = some y) : w.cell? ⟨g, i * 4, none⟩ = some (.bool y.s) :=
 elt_frs.cell h hy (j := 0) (u := .bool y.s) (by omega) rfl
def AllFr (w : World) (K : Nat) (L : List Fr) : Prop := ∀ x ∈ L, FrOk w K x
theorem AllFr.below {w w' : World} {K : Nat} {L : List Fr} (h : AllFr w K L) (hb : Below w.heap.size w w') : AllFr w' K L := fun x hx => (h x hx).below hb
theorem AllFr.k {w w' : World} {K : Nat} {L : List Fr} (h : AllFr w K L) (hb : K64 w w') : AllFr w' K L := fun x hx => (h x hx).k hb
theorem AllFr.set {w : World} {K : Nat} {L : List Fr} (h : AllFr w K L) (i : Nat) {x : Fr} (hx : FrOk w K x) : AllFr w K (L.set i x) := fun y hy => by
 rcases List.mem_or_eq_of_mem_set hy with hy | rfl
 ·exact h y hy
 ·exact hx
theorem dotG {w : World} {X Y : Option Addr} {n cx m cy M M' K : Nat} {P Q : List (Int × Rat)} (h : GV w X n cx P M) (h' : GV w Y m cy Q M') (hM0 : n * (M + M' + 3) ≤ 15000) (hM : M ≤ 15000) (hM' : M' ≤ 15000) (hn : n ≤ 1000000) (hm : m ≤ 1000000) (hs : sz (pdot P Q) ≤ K) (hT : Hid (Tab w)) :
  Calls Tryd.prog 24 #[.slice X n cx, .slice Y m cy] w (TellsNum w (pdot P Q) K) := (dotV_q h h' hM0 hM hM' hn hm hT).mono fun _ _ k => k.num hs
def LF1 (w W : World) (g n K : Nat) (P : List (Int × Rat)) (CL : List Vc) (gk : Nat) (s : Value) (wr : World) : Prop := ∃ (i : Nat) (D : List Fr), i ≤ n ∧ n - i = gk ∧ s = .int .i64 (i : Int) ∧ OwnR wr W.heap.size 27 4 (.slice (some ⟨g, 0, none⟩) n n) n (flat Fr.cs D) ∧ AllFr wr K D ∧
 (D.take i).map (fun x => x.q) = (CL.take i).map (fun v => pdot P (prs v.L)) ∧ Below w.heap.size w wr ∧ Below W.heap.size W wr
set_option maxRecDepth 100000 in
set_option maxHeartbeats 4000000 in
theorem leftW {w : World} {X A : Option Addr} {nx cx n c : Nat} {P : List (Int × Rat)} {CL : List Vc} (M MC N K : Nat) (hx : GV w X nx cx P M) (hnx : nx ≤ N) (h : Sl Vc.cs 1 w A n c CL) (hcl : Hid (∀ v ∈ CL, GV w v.A v.n v.c (prs v.L) MC ∧ v.n ≤ 1000)) (hn : n ≤ 1000000)
  (hK : Hid (∀ v ∈ CL, sz (pdot (nrm P) (prs v.L)) ≤ K)) (hK0 : 1 ≤ K) (hK1 : N * (M + 1 + MC + 3) ≤ 15000) (hK2 : K ≤ 15000) (hM : M ≤ 14000) (hMC : MC ≤ 14000) (hN : N ≤ 1000) (hT : Hid (Tab w)) :
  Calls Tryd.prog 39 #[.slice X nx cx, .slice A n c] w (TellsV w (nrm (idxP (CL.map fun v => pdot P (prs v.L)))) (K + 2)) := by
 have H := Lib.hid h
 have HLN := Lib.hid h.1
 have hnq := normW M N hx hnx (by omega) hN hT
 clear h hx
 go_enter Tryd.func39, Tryd.ntmps39
 go_wp2_with fail
 with_reducible refine hnq.mono ?_
 rintro e w1 ⟨A1, n1, c1, rfl, h1, hn1, b1⟩
 have H1 := Lib.hid h1
 clear hnq h1
 go_wp2_with (at_make; refine And.left (b := True) ?_)
 refine ⟨?_, trivial⟩
 refine Elt.makeN elt_frs zFr (fun i z h1 h2 => fr_zero h1 h2) rfl _ _ rfl .i64 .i64 n rfl rfl (by omega) w1.heap.size (Nat.le_refl _) ?_
 intro g w2 ho2 b2
 have HO2 := Lib.hid ho2
 have HBW := Lib.hid b2
 have HB2 := Lib.hid (below_trans b1 b2)
 have hWs := b1.size
 clear ho2 b1 b2
 go_wp2_with fail
 go_loopg [15] n (fun gk s wr => LF1 w w1 g n K (nrm P) CL gk s wr)
 case atStart => exact ⟨0, _, Nat.zero_le _, rfl, rfl, HO2.out.below (by go_grown), fun x hx => by rw [List.eq_of_mem_replicate hx]; exact zFr_ok _ (by omega), by simp, below_trans HB2.out (by go_grown), below_trans HBW.out (by go_grown)⟩
 case round =>
  clear HO2 HBW HB2
  obtain ⟨i, D, hi, hgk, rfl, ho, hfr, hdq, hB, hBW⟩ := hrel
  have HGK := Lib.hid hgk
  have HDL := Lib.hid (ho.eltn elt_frs (by omega))
  clear hgk
  by_cases hlt : i < n
  ·obtain ⟨b, off, rfl, hel⟩ := H.out.at Vc.cs_len (by omega) (by omega)
   obtain ⟨v, hv⟩ : ∃ v, CL[i]? = some v := ⟨CL[i]'(by rw [HLN.out]; exact hlt), List.getElem?_eq_getElem _⟩
   have hnd : ElA w b (off + i) v.cs := by have := hel i v hv; rwa [Nat.mul_one] at this
   have hcv := hcl.out v (List.mem_of_getElem? hv)
   have HV := Lib.hid hcv.1
   have hvn := hcv.2
   have HKV := Lib.hid (hK.out v (List.mem_of_getElem? hv))
   have hm1 : n1 * (M + 1 + MC + 3) ≤ 15000 := Nat.le_trans (Nat.mul_le_mul_right _ hn1) hK1
   obtain ⟨y, hy⟩ : ∃ y, D[i]? = some y := ⟨D[i]'(by rw [HDL.out]; exact hlt), List.getElem?_eq_getElem _⟩
   have HY := Lib.hid hy
   have HDQ : Hid (∀ r : Fr, r.q = pdot (nrm P) (prs v.L) → ((D.set i r).take (i + 1)).map (fun x => x.q) = (CL.take (i + 1)).map (fun v => pdot (nrm P) (prs v.L))) := Lib.hid (fun r hr => by
    rw [take_snoc (x := r) (by rw [List.getElem?_set_self (by rw [HDL.out]; omega)]), List.take_set_of_le (Nat.le_refl i), take_snoc hv, List.map_append, List.map_append, hdq]
    simp [hr])
   have i1 : (i : Int) < (n : Int) := by omega
   have i2 : (0 : Int) ≤ (i : Int) := by omega
   clear hel hv hy hcv hdq
   have Bz := Below.refl wr.heap.size wr
   have p50_0 := (hnd.below (below_trans hB Bz)).c0 (u := .slice v.A v.n v.c) rfl
   go_wp2_with fail
   with_reducible refine (dotG (K := K) ((H1.out.below (below_trans hBW (below_trans (b := wr) Bz (by go_grown)))).gv (nrm_nrm _).rise) (HV.out.below (below_trans hB (below_trans (b := wr) Bz (by go_grown)))) hm1 (by omega) (by omega) (by omega) (by omega) HKV.out (Lib.hid (Tab.below hT.out (below_trans hB (below_trans (b := wr) Bz (by go_grown)))))).mono ?_
   rintro e w11 ⟨s11, A11, c11, l11, s11r, A11r, c11r, l11r, rfl, h11, z11, b11⟩
   replace b11 := below_trans (a := wr) (by go_grown) b11
   replace hfr := hfr.below b11
   replace ho := ho.below b11
   replace Bz := below_trans Bz b11
   clear b11
   clear p50_0
   have p51_0 := fr_0 ho HY.out
   have p51_1 := elt_frs.cell ho HY.out (j := 1) (u := .slice y.A y.l y.c) (by omega) rfl
   have p51_2 := elt_frs.cell ho HY.out (j := 2) (u := .bool y.s') (by omega) rfl
   have p51_3 := elt_frs.cell ho HY.out (j := 3) (u := .slice y.A' y.l' y.c') (by omega) rfl
   have f51_0 := ho.frozen (i * 4)
   have f51_1 := ho.frozen (i * 4 + 1)
   have f51_2 := ho.frozen (i * 4 + 2)
   have f51_3 := ho.frozen (i * 4 + 3)
   have y51 := ho.blk.1
   go_upto_region 7 with (fail)
   obtain ⟨V11, hV, ho2, hg2⟩ := fr_store ho HY.out ⟨s11, A11, c11, l11, s11r, A11r, c11r, l11r, pdot (nrm P) (prs v.L), true⟩
   rw [← hV]
   clear hV
   replace hB := (below_trans hB Bz).trans (hg2.below (by have := hB.size; have := Bz.size; omega) (fun g' hg' => by have := ho.base g' hg'; omega))
   replace hBW := (below_trans hBW Bz).trans (hg2.below (by have := hBW.size; have := Bz.size; omega) (fun g' hg' => ho.base g' hg'))
   replace hfr := hfr.k hg2.k
   replace h11 := h11.k hg2.k
   clear ho
   have ho := ho2
   clear ho2 hg2 Bz
   have Bz := Below.refl V11.heap.size V11
   clear p51_0 p51_1 p51_2 p51_3 f51_0 f51_1 f51_2 f51_3 y51
   go_wp2_with fail
   go_roundg (n - (i + 1))
   case measure => have := HGK.out; omega
   case rel => exact ⟨i + 1, _, by omega, rfl, by go_num, OwnR.below ho (by go_grown), (AllFr.below hfr (by go_grown)).set i ((RN.below h11 (by go_grown)).fr z11), HDQ.out _ rfl, below_trans (below_trans hB Bz) (by go_grown), below_trans (below_trans hBW Bz) (by go_grown)⟩
  ·obtain rfl : i = n := by omega
   have i1 : ¬ (i : Int) < (i : Int) := by omega
   have hoq := ofV_q (ho.sl' elt_frs HDL.out) (Lib.hid hfr) (by omega) hn (Lib.hid (hT.out.below hB))
   have HDE : Hid (D.map (fun x => x.q) = CL.map fun v => pdot P (prs v.L)) := Lib.hid (by
    rw [List.take_of_length_le (by rw [HDL.out]; exact Nat.le_refl _), List.take_of_length_le (by rw [HLN.out]; exact Nat.le_refl _)] at hdq
    rw [hdq]
    exact List.map_congr_left fun v _ => pdot_nrm _ _)
   rw [HDE.out] at hoq
   clear ho hfr hdq
   go_wp2_with fail
   with_reducible refine hoq.mono ?_
   rintro e w3 ⟨A3, n3, c3, rfl, h3, b3⟩
   have H3 := Lib.hid h3
   clear h3 hoq
   go_wp2_with fail
   go_ret
   exact ⟨A3, n3, c3, rfl, H3.out, below_trans hB b3⟩
end Go.Proofs.YtldcfmangolkoaaDoor
namespace Go.Proofs.YtldcfmangolkoaaDoor
open Go.RowKit Tw

def CW (w : World) (A : Option Addr) (n c : Nat) (C : List (List (Int × Rat))) (M : Nat) : Prop :=
 ∃ CL : List Vc, Sl Vc.cs 1 w A n c CL ∧ (∀ v ∈ CL, GV w v.A v.n v.c (prs v.L) M) ∧ CL.map (fun v => prs v.L) = C
def CM (w : World) (A : Option Addr) (n c : Nat) (C : List (List (Int × Rat))) (M : Nat) : Prop :=
 ∃ CL : List Vc, Sl Vc.cs 1 w A n c CL ∧ (∀ v ∈ CL, CN w v M) ∧ CL.map (fun v => prs v.L) = C
theorem CW.below {w w' : World} {A : Option Addr} {n c M : Nat} {C : List (List (Int × Rat))} (h : CW w A n c C M) (hb : Below w.heap.size w w') : CW w' A n c C M := by
 obtain ⟨CL, h1, h2, h3⟩ := h
 exact ⟨CL, h1.below hb, fun v hv => (h2 v hv).below hb, h3⟩
theorem CM.below {w w' : World} {A : Option Addr} {n c M : Nat} {C : List (List (Int × Rat))} (h : CM w A n c C M) (hb : Below w.heap.size w w') : CM w' A n c C M := by
 obtain ⟨CL, h1, h2, h3⟩ := h
 exact ⟨CL, h1.below hb, fun v hv => (h2 v hv).below hb, h3⟩
theorem CW.len {w : World} {A : Option Addr} {n c M : Nat} {C : List (List (Int × Rat))} (h : CW w A n c C M) : C.length = n := by
 obtain ⟨CL, h1, _, rfl⟩ := h
 rw [List.length_map, h1.1]
theorem CM.len {w : World} {A : Option Addr} {n c M : Nat} {C : List (List (Int × Rat))} (h : CM w A n c C M) : C.length = n := by
 obtain ⟨CL, h1, _, rfl⟩ := h
 rw [List.length_map, h1.1]
theorem CM.cw {w : World} {A : Option Addr} {n c M : Nat} {C : List (List (Int × Rat))} (h : CM w A n c C M) (hr : ∀ x ∈ C, Rise x) : CW w A n c C (M + 1) := by
 obtain ⟨CL, h1, h2, rfl⟩ := h
 exact ⟨CL, h1, fun v hv => (h2 v hv).nv.gv (hr _ (List.mem_map_of_mem (f := fun v : Vc => prs v.L) hv)), rfl⟩
theorem times_len {C : List (List (Int × Rat))} {P : List (Int × Rat)} {k N : Nat} (hC : ∀ c ∈ C, c.length ≤ k) (hP : P.length ≤ N) : (nrm (timesP C (nrm P))).length ≤ N * k :=
 Nat.le_trans (nrm_len _) (Nat.le_trans (timesP_len hC _) (Nat.mul_le_mul_right _ (Nat.le_trans (nrm_len _) hP)))
theorem timesW {w : World} {X A : Option Addr} {nx cx n c : Nat} {P : List (Int × Rat)} {C : List (List (Int × Rat))} (M MC kc mc N WT D K : Nat) (h : CW w A n c C MC) (hx : GV w X nx cx P M) (hC : ∀ x ∈ C, x.length ≤ kc ∧ wtot x ≤ mc) (hnx : nx ≤ N) (hW : wtot P ≤ WT)
  (hM : M ≤ 9000) (hMC : MC ≤ 9000) (hN : N ≤ 1000) (hkc : kc ≤ 1000) (hn : n ≤ 1000000) (hD : N * mc + kc * WT ≤ D) (hD2 : D ≤ 18000) (hK : N * kc ≤ K) (hT : Hid (Tab w)) :
  Calls Tryd.prog 29 #[.slice A n c, .slice X nx cx] w (TellsW w (nrm (timesP C (nrm P))) D K) := by
 obtain ⟨CL, h1, h2, rfl⟩ := h
 have hl := hx.len
 have a1 := Nat.mul_le_mul_right mc hnx
 have a2 := Nat.mul_le_mul_left kc hW
 refine (timesV_q M MC kc mc h1 (Lib.hid fun v hv => ?_) hx hM hMC (by omega) hkc hn D (by omega) hD2 hT).mono fun _ _ k => k.w (Nat.le_refl _) (Nat.le_trans (times_len (fun c hc => (hC c hc).1) (by omega)) hK)
 have h3 := hC _ (List.mem_map_of_mem (f := fun v : Vc => prs v.L) hv)
 have h4 := (h2 v hv).len
 exact ⟨h2 v hv, by omega, h3.2⟩
theorem idx_len (l : List Rat) : (idxP l).length = l.length := List.length_mapIdx
theorem leftC {w : World} {X A : Option Addr} {nx cx n c : Nat} {P : List (Int × Rat)} {C : List (List (Int × Rat))} (M MC N K NN : Nat) (hx : GV w X nx cx P M) (h : CW w A n c C MC) (hnx : nx ≤ N) (hC : ∀ x ∈ C, x.length ≤ 1000) (hn : n ≤ NN) (hNN : NN ≤ 1000000)
  (hK : ∀ x ∈ C, sz (pdot (nrm P) x) ≤ K) (hK0 : 1 ≤ K) (hK1 : N * (M + 1 + MC + 3) ≤ 15000) (hK2 : K ≤ 15000) (hM : M ≤ 14000) (hMC : MC ≤ 14000) (hN : N ≤ 1000) (hT : Hid (Tab w)) :
  Calls Tryd.prog 39 #[.slice X nx cx, .slice A n c] w (TellsW w (nrm (idxP (C.map fun x => pdot P x))) (K + 2) NN) := by
 have hln := h.len
 obtain ⟨CL, h1, h2, rfl⟩ := h
 have e : (CL.map (fun v => prs v.L)).map (fun x => pdot P x) = CL.map fun v => pdot P (prs v.L) := by rw [List.map_map]; rfl
 rw [e]
 refine (leftW M MC N K hx hnx h1 (Lib.hid fun v hv => ?_) (by omega) (Lib.hid fun v hv => hK _ (List.mem_map_of_mem (f := fun v : Vc => prs v.L) hv)) hK0 hK1 hK2 hM hMC hN hT).mono fun _ _ k => k.w (Nat.le_refl _) (Nat.le_trans (nrm_len _) (by rw [idx_len, List.length_map]; rw [List.length_map] at hln; omega))
 have h3 := hC _ (List.mem_map_of_mem (f := fun v : Vc => prs v.L) hv)
 have h4 := (h2 v hv).len
 exact ⟨h2 v hv, by omega⟩
end Go.Proofs.YtldcfmangolkoaaDoor
namespace Go.Proofs.YtldcfmangolkoaaDoor
open Go.RowKit Tw

set_option maxRecDepth 100000 in
set_option maxHeartbeats 4000000 in
theorem mright_no {w : World} {A : Option Addr} {n c : Nat} (k : Int) (g1 : k < 0) : Calls Tryd.prog 28 #[.slice A n c, .int .i64 k] w fun e w' => e = .returned (.bool false) ∧ w = w' := by
 go_enter Tryd.func28, Tryd.ntmps28
 go_wp2_with fail
 go_ret
 exact ⟨rfl, rfl⟩
set_option maxRecDepth 100000 in
set_option maxHeartbeats 4000000 in
theorem mright_q {w : World} {A : Option Addr} {n c m : Nat} {CL : List Vc} {k : Int} (h : Sl Vc.cs 1 w A n c CL) (hcl : Hid (∀ v ∈ CL, Sl Tm.cs 5 w v.A v.n v.c v.L ∧ (∀ t ∈ v.L, FrOk w m t.x) ∧ v.n ≤ 1000000000)) (hm : m ≤ 20000) (hn : n ≤ 1000000000) (g1 : ¬ k < 0) (r : Bool) (hr : Hid ((CL.all fun v => rightB v.L k) = r)) (hT : Hid (Tab w)) :
  Calls Tryd.prog 28 #[.slice A n c, .int .i64 k] w fun e w' => e = .returned (.bool r) ∧ Below w.heap.size w w' := by
 have H := Lib.hid h
 have HLN := Lib.hid h.1
 have hra := hr
 have hst : AL1 w CL (fun v => rightB v.L k) n n (.int .i64 ((0 : Nat) : Int)) w := ⟨0, Nat.zero_le _, rfl, rfl, Below.refl _ _, by simp⟩
 have HST := Lib.hid hst
 clear h hr hst
 go_enter Tryd.func28, Tryd.ntmps28
 go_wp2_with fail
 go_loopg [11] n (fun gk s wr => AL1 w CL (fun v => rightB v.L k) n gk s wr)
 case atStart => exact HST.out
 case round =>
  clear HST
  obtain ⟨i, hi, hgk, rfl, hB, hd⟩ := hrel
  have HGK := Lib.hid hgk
  have HD := Lib.hid hd
  clear hgk hd
  by_cases hlt : i < n
  ·obtain ⟨b, off, rfl, hel⟩ := H.out.at Vc.cs_len (by omega) (by omega)
   obtain ⟨x, hx⟩ : ∃ x, CL[i]? = some x := ⟨CL[i]'(by rw [HLN.out]; exact hlt), List.getElem?_eq_getElem _⟩
   have hnd : ElA w b (off + i) (Vc.cs x) := by have := hel i x hx; rwa [Nat.mul_one] at this
   have HTI := Lib.hid hx
   have HV := Lib.hid (hcl.out x (List.mem_of_getElem? HTI.out))
   have i1 : (i : Int) < (n : Int) := by omega
   have i2 : (0 : Int) ≤ (i : Int) := by omega
   clear hx hel
   cases hp : rightB x.L k
   ·have HP := Lib.hid hp
    clear hp
    have Bz := Below.refl wr.heap.size wr
    have p50_0 := (hnd.below (below_trans hB Bz)).c0 (u := .slice x.A x.n x.c) rfl
    go_wp2_with fail
    with_reducible refine (right_q (HV.out.1.below (below_trans hB (below_trans (b := wr) Bz (by go_grown)))) (fun t ht => (HV.out.2.1 t ht).below (below_trans hB (below_trans (b := wr) Bz (by go_grown)))) hm HV.out.2.2 false HP (Lib.hid (Tab.below hT.out (below_trans hB (below_trans (b := wr) Bz (by go_grown)))))).mono ?_
    rintro e w1 ⟨rfl, b1⟩
    replace b1 := below_trans (a := wr) (by go_grown) b1
    replace Bz := below_trans Bz b1
    clear b1
    clear p50_0
    go_wp2_with fail
    go_ret
    have hF := below_trans (c := w1) hB Bz
    obtain rfl : r = false := by rw [← hra.out]; exact all_no HTI.out HP.out
    exact ⟨rfl, below_trans (below_trans hB Bz) (by go_grown)⟩
   ·have HP := Lib.hid hp
    clear hp
    have Bz := Below.refl wr.heap.size wr
    have p50_0 := (hnd.below (below_trans hB Bz)).c0 (u := .slice x.A x.n x.c) rfl
    go_wp2_with fail
    with_reducible refine (right_q (HV.out.1.below (below_trans hB (below_trans (b := wr) Bz (by go_grown)))) (fun t ht => (HV.out.2.1 t ht).below (below_trans hB (below_trans (b := wr) Bz (by go_grown)))) hm HV.out.2.2 true HP (Lib.hid (Tab.below hT.out (below_trans hB (below_trans (b := wr) Bz (by go_grown)))))).mono ?_
    rintro e w1 ⟨rfl, b1⟩
    replace b1 := below_trans (a := wr) (by go_grown) b1
    replace Bz := below_trans Bz b1
    clear b1
    clear p50_0
    go_wp2_with fail
    go_roundg (n - (i + 1))
    case measure => have := HGK.out; omega
    case rel => exact ⟨i + 1, by omega, rfl, by go_num, below_trans (below_trans hB Bz) (by go_grown), take_all HD.out HTI.out HP.out⟩
  ·obtain rfl : i = n := by omega
   have i1 : ¬ (i : Int) < (i : Int) := by omega
   obtain rfl : r = true := by rw [← hra.out]; exact all_yes HLN.out HD.out
   go_wp2_with fail
   go_ret
   exact ⟨rfl, hB⟩
theorem right_cn {w : World} {CL : List Vc} {C : List (List (Int × Rat))} {M : Nat} {k : Int} (h : ∀ v ∈ CL, CN w v M) (hC : CL.map (fun v => prs v.L) = C) : (CL.all fun v => rightB v.L k) = rightC k C := by
 subst hC
 rw [Bool.eq_iff_iff, rightC_iff, List.all_eq_true]
 refine ⟨fun ha c hc => ?_, fun hr v hv => ?_⟩
 ·obtain ⟨v, hv, rfl⟩ := List.mem_map.1 hc
  have h1 := rightB_nrm (ha v hv)
  refine ⟨h1.1, fun x hx => ?_⟩
  obtain ⟨t, ht, rfl⟩ := prs_mem hx
  exact ⟨(h1.2 t ht).1, (h1.2 t ht).2.1⟩
 ·have h1 := hr _ (List.mem_map_of_mem (f := fun v : Vc => prs v.L) hv)
  refine rightB_of h1.1 fun t ht => ?_
  have h2 := h1.2 (t.at_, t.x.q) (List.mem_map_of_mem (f := fun t : Tm => (t.at_, t.x.q)) ht)
  exact ⟨h2.1, h2.2, ((h v hv).2.1 t ht).2.1⟩
theorem mrightC {w : World} {A : Option Addr} {n c M : Nat} {C : List (List (Int × Rat))} {k : Int} (h : CM w A n c C M) (hC : ∀ x ∈ C, x.length ≤ 1000000) (hM : M ≤ 20000) (hn : n ≤ 1000000000) (g1 : ¬ k < 0) (r : Bool) (hr : Hid (rightC k C = r)) (hT : Hid (Tab w)) :
  Calls Tryd.prog 28 #[.slice A n c, .int .i64 k] w fun e w' => e = .returned (.bool r) ∧ Below w.heap.size w w' := by
 obtain ⟨CL, h1, h2, rfl⟩ := h
 refine mright_q (m := M) h1 (Lib.hid fun v hv => ⟨(h2 v hv).1, fun t ht => ?_, ?_⟩) hM hn g1 r (Lib.hid ((right_cn h2 rfl).trans hr.out)) hT
 ·exact (h2 v hv).2.1.fr (fun _ => Nat.le_refl _) t ht
 ·have h3 := hC _ (List.mem_map_of_mem (f := fun v : Vc => prs v.L) hv)
  have h4 := (h2 v hv).nv.len
  omega
def sameC (p : Vc × Vc) : Bool := decide (prs p.1.L = prs p.2.L)
theorem zip_prs : ∀ {L K : List Vc}, L.length = K.length → decide (L.map (fun v => prs v.L) = K.map fun v => prs v.L) = (L.zip K).all sameC
 | [], [], _ => rfl
 | [], _ :: _, h => by cases h
 | _ :: _, [], h => by cases h
 | x :: L, y :: K, h => by
  have ih := zip_prs (L := L) (K := K) (by simpa using h)
  rw [List.zip_cons_cons, List.all_cons, ← ih]
  unfold sameC
  simp only [List.map_cons, List.cons.injEq, Bool.decide_and]
def SV2 (w : World) (Z : List (Vc × Vc)) (n gk : Nat) (s : Value) (wr : World) : Prop := ∃ i : Nat, i ≤ n ∧ n - i = gk ∧ s = .int .i64 (i : Int) ∧ Below w.heap.size w wr ∧ (Z.take i).all sameC = true
set_option maxRecDepth 100000 in
set_option maxHeartbeats 4000000 in
theorem sameVecs_q {w : World} {A A' : Option Addr} {n n' c c' M M' : Nat} {C D : List (List (Int × Rat))} (h : CM w A n c C M) (h' : CM w A' n' c' D M') (hC : ∀ x ∈ C, x.length ≤ 1000000) (hD : ∀ x ∈ D, x.length ≤ 1000000) (hM : M ≤ 40000) (hM' : M' ≤ 40000) (hn : n ≤ 1000000000) (hn' : n' ≤ 1000000000) (r : Bool) (hr : Hid (decide (C = D) = r)) :
  Calls Tryd.prog 40 #[.slice A n c, .slice A' n' c'] w fun e w' => e = .returned (.bool r) ∧ Below w.heap.size w w' := by
 obtain ⟨L, x1, x2, rfl⟩ := h
 obtain ⟨K, y1, y2, rfl⟩ := h'
 have H := Lib.hid x1
 have H' := Lib.hid y1
 have HLN := Lib.hid x1.1
 have HMN := Lib.hid y1.1
 have HOX := Lib.hid x2
 have HOY := Lib.hid y2
 have HCX := Lib.hid hC
 have HCY := Lib.hid hD
 clear x1 x2 y1 y2 hC hD
 by_cases hnn : n = n'
 ·subst hnn
  have g0 : ((n : Int) != (n : Int)) = false := by simp
  have hra : Hid ((L.zip K).all sameC = r) := Lib.hid (by rw [← hr.out, zip_prs (HLN.out.trans HMN.out.symm)])
  have HZL : Hid ((L.zip K).length = n) := Lib.hid (by rw [List.length_zip, HLN.out, HMN.out]; exact Nat.min_self _)
  have hst : SV2 w (L.zip K) n n (.int .i64 ((0 : Nat) : Int)) w := ⟨0, Nat.zero_le _, rfl, rfl, Below.refl _ _, by simp⟩
  have HST := Lib.hid hst
  clear hst hr
  go_enter Tryd.func40, Tryd.ntmps40
  go_wp2_with fail
  go_loopg [5] n (fun gk s wr => SV2 w (L.zip K) n gk s wr)
  case atStart => exact HST.out
  case round =>
   clear HST
   obtain ⟨i, hi, hgk, rfl, hB, hd⟩ := hrel
   have HGK := Lib.hid hgk
   have HD := Lib.hid hd
   clear hgk hd
   by_cases hlt : i < n
   ·obtain ⟨b, off, rfl, hel⟩ := H.out.at Vc.cs_len (by omega) (by omega)
    obtain ⟨b', off', rfl, hel'⟩ := H'.out.at Vc.cs_len (by omega) (by omega)
    obtain ⟨x, ex⟩ : ∃ x, L[i]? = some x := ⟨L[i]'(by rw [HLN.out]; exact hlt), List.getElem?_eq_getElem _⟩
    obtain ⟨y, ey⟩ : ∃ y, K[i]? = some y := ⟨K[i]'(by rw [HMN.out]; exact hlt), List.getElem?_eq_getElem _⟩
    have hnd : ElA w b (off + i) (Vc.cs x) := by have := hel i x ex; rwa [Nat.mul_one] at this
    have hnd' : ElA w b' (off' + i) (Vc.cs y) := by have := hel' i y ey; rwa [Nat.mul_one] at this
    have HZI : Hid ((L.zip K)[i]? = some (x, y)) := Lib.hid (by rw [List.getElem?_zip_eq_some]; exact ⟨ex, ey⟩)
    have HVX := Lib.hid (HOX.out x (List.mem_of_getElem? ex))
    have HVY := Lib.hid (HOY.out y (List.mem_of_getElem? ey))
    have hxn : x.n ≤ 1000000 := by have h3 := HCX.out _ (List.mem_map_of_mem (f := fun v : Vc => prs v.L) (List.mem_of_getElem? ex)); have h4 := HVX.out.nv.len; omega
    have hyn : y.n ≤ 1000000 := by have h3 := HCY.out _ (List.mem_map_of_mem (f := fun v : Vc => prs v.L) (List.mem_of_getElem? ey)); have h4 := HVY.out.nv.len; omega
    have i1 : (i : Int) < (n : Int) := by omega
    have i2 : (0 : Int) ≤ (i : Int) := by omega
    clear ex hel ey hel'
    cases hp : decide (prs x.L = prs y.L)
    ·have HP := Lib.hid hp
     clear hp
     have Bz := Below.refl wr.heap.size wr
     have p50_0 := (hnd.below (below_trans hB Bz)).c0 (u := .slice x.A x.n x.c) rfl
     have p51_0 := (hnd'.below (below_trans hB Bz)).c0 (u := .slice y.A y.n y.c) rfl
     go_wp2_with fail
     (try simp only [List.append_eq, List.cons_append, List.nil_append])
     refine wp_region_plan (.pure 0 (.pure 1 (.pure 2 (.take 3 (.pure 4 (.pure 5 (.pure 6 (.take 7 (.only 8 (.pure 9 .done)))))))))) [] (fun w' => w'.cell? ⟨b, off + i, none⟩ = some (.slice x.A x.n x.c) ∧ w'.cell? ⟨b', off' + i, none⟩ = some (.slice y.A y.n y.c)) (by kernel_rfl) (by kernel_rfl) ⟨p50_0, p51_0⟩ ?_
     refine wpPlan_pure (o := ⟨some 17, _, _, _, _, _⟩) rfl rfl (fun w' => by go_simp <;> with_reducible rfl) ?_
     try simp only [pUt, pLt, pZt, pSt]
     refine wpPlan_pure (o := ⟨some 18, _, _, _, _, _⟩) rfl rfl (fun w' => by go_simp <;> with_reducible rfl) ?_
     try simp only [pUt, pLt, pZt, pSt]
     refine wpPlan_pure (o := ⟨some 19, _, _, _, _, _⟩) rfl rfl (fun w' => by go_simp <;> with_reducible rfl) ?_
     try simp only [pUt, pLt, pZt, pSt]
     refine wpPlan_take (o := ⟨some 20, _, _, _, _, _⟩) rfl rfl (fun w' ⟨p50_0, p51_0⟩ => by go_simp <;> with_reducible rfl) ?_
     try simp only [pUt, pLt, pZt, pSt]
     refine wpPlan_pure (o := ⟨some 21, _, _, _, _, _⟩) rfl rfl (fun w' => by go_simp <;> with_reducible rfl) ?_
     try simp only [pUt, pLt, pZt, pSt]
     refine wpPlan_pure (o := ⟨some 22, _, _, _, _, _⟩) rfl rfl (fun w' => by go_simp <;> with_reducible rfl) ?_
     try simp only [pUt, pLt, pZt, pSt]
     refine wpPlan_pure (o := ⟨some 23, _, _, _, _, _⟩) rfl rfl (fun w' => by go_simp <;> with_reducible rfl) ?_
     try simp only [pUt, pLt, pZt, pSt]
     refine wpPlan_take (o := ⟨some 24, _, _, _, _, _⟩) rfl rfl (fun w' ⟨p50_0, p51_0⟩ => by go_simp <;> with_reducible rfl) ?_
     try simp only [pUt, pLt, pZt, pSt]
     refine wpPlan_call (o := ⟨some 25, _, _, _, _, _⟩) rfl rfl (fun K hK => ?_)
     go_simp
     with_reducible refine (sameVec_q ((HVX.out.nv).below (below_trans hB (below_trans (b := wr) Bz (by go_grown)))) ((HVY.out.nv).below (below_trans hB (below_trans (b := wr) Bz (by go_grown)))) hM hM' hxn hyn false HP).mono ?_
     rintro e w1 ⟨rfl, b1⟩
     replace b1 := below_trans (a := wr) (by go_grown) b1
     replace Bz := below_trans Bz b1
     clear b1
     clear p50_0 p51_0
     have p50_0 := (hnd.below (below_trans hB Bz)).c0 (u := .slice x.A x.n x.c) rfl
     have p51_0 := (hnd'.below (below_trans hB Bz)).c0 (u := .slice y.A y.n y.c) rfl
     refine hK.out _ _ ⟨p50_0, p51_0⟩ (fun _ => ?_)
     try simp only [pUt, pLt, pZt, pSt]
     clear hK K
     refine wpPlan_pure (o := ⟨some 26, _, _, _, _, _⟩) rfl rfl (fun w' => by go_simp <;> with_reducible rfl) ?_
     try simp only [pUt, pLt, pZt, pSt]
     refine wpPlan_done ?_
     go_wp2_with fail
     go_ret
     have hF := below_trans (c := w1) hB Bz
     obtain rfl : r = false := by rw [← hra.out]; exact all_no HZI.out HP.out
     exact ⟨rfl, below_trans (below_trans hB Bz) (by go_grown)⟩
    ·have HP := Lib.hid hp
     clear hp
     have Bz := Below.refl wr.heap.size wr
     have p50_0 := (hnd.below (below_trans hB Bz)).c0 (u := .slice x.A x.n x.c) rfl
     have p51_0 := (hnd'.below (below_trans hB Bz)).c0 (u := .slice y.A y.n y.c) rfl
     go_wp2_with fail
     (try simp only [List.append_eq, List.cons_append, List.nil_append])
     refine wp_region_plan (.pure 0 (.pure 1 (.pure 2 (.take 3 (.pure 4 (.pure 5 (.pure 6 (.take 7 (.only 8 (.pure 9 .done)))))))))) [] (fun w' => w'.cell? ⟨b, off + i, none⟩ = some (.slice x.A x.n x.c) ∧ w'.cell? ⟨b', off' + i, none⟩ = some (.slice y.A y.n y.c)) (by kernel_rfl) (by kernel_rfl) ⟨p50_0, p51_0⟩ ?_
     refine wpPlan_pure (o := ⟨some 17, _, _, _, _, _⟩) rfl rfl (fun w' => by go_simp <;> with_reducible rfl) ?_
     try simp only [pUt, pLt, pZt, pSt]
     refine wpPlan_pure (o := ⟨some 18, _, _, _, _, _⟩) rfl rfl (fun w' => by go_simp <;> with_reducible rfl) ?_
     try simp only [pUt, pLt, pZt, pSt]
     refine wpPlan_pure (o := ⟨some 19, _, _, _, _, _⟩) rfl rfl (fun w' => by go_simp <;> with_reducible rfl) ?_
     try simp only [pUt, pLt, pZt, pSt]
     refine wpPlan_take (o := ⟨some 20, _, _, _, _, _⟩) rfl rfl (fun w' ⟨p50_0, p51_0⟩ => by go_simp <;> with_reducible rfl) ?_
     try simp only [pUt, pLt, pZt, pSt]
     refine wpPlan_pure (o := ⟨some 21, _, _, _, _, _⟩) rfl rfl (fun w' => by go_simp <;> with_reducible rfl) ?_
     try simp only [pUt, pLt, pZt, pSt]
     refine wpPlan_pure (o := ⟨some 22, _, _, _, _, _⟩) rfl rfl (fun w' => by go_simp <;> with_reducible rfl) ?_
     try simp only [pUt, pLt, pZt, pSt]
     refine wpPlan_pure (o := ⟨some 23, _, _, _, _, _⟩) rfl rfl (fun w' => by go_simp <;> with_reducible rfl) ?_
     try simp only [pUt, pLt, pZt, pSt]
     refine wpPlan_take (o := ⟨some 24, _, _, _, _, _⟩) rfl rfl (fun w' ⟨p50_0, p51_0⟩ => by go_simp <;> with_reducible rfl) ?_
     try simp only [pUt, pLt, pZt, pSt]
     refine wpPlan_call (o := ⟨some 25, _, _, _, _, _⟩) rfl rfl (fun K hK => ?_)
     go_simp
     with_reducible refine (sameVec_q ((HVX.out.nv).below (below_trans hB (below_trans (b := wr) Bz (by go_grown)))) ((HVY.out.nv).below (below_trans hB (below_trans (b := wr) Bz (by go_grown)))) hM hM' hxn hyn true HP).mono ?_
     rintro e w1 ⟨rfl, b1⟩
     replace b1 := below_trans (a := wr) (by go_grown) b1
     replace Bz := below_trans Bz b1
     clear b1
     clear p50_0 p51_0
     have p50_0 := (hnd.below (below_trans hB Bz)).c0 (u := .slice x.A x.n x.c) rfl
     have p51_0 := (hnd'.below (below_trans hB Bz)).c0 (u := .slice y.A y.n y.c) rfl
     refine hK.out _ _ ⟨p50_0, p51_0⟩ (fun _ => ?_)
     try simp only [pUt, pLt, pZt, pSt]
     clear hK K
     refine wpPlan_pure (o := ⟨some 26, _, _, _, _, _⟩) rfl rfl (fun w' => by go_simp <;> with_reducible rfl) ?_
     try simp only [pUt, pLt, pZt, pSt]
     refine wpPlan_done ?_
     go_wp2_with fail
     go_roundg (n - (i + 1))
     case measure => have := HGK.out; omega
     case rel => exact ⟨i + 1, by omega, rfl, by go_num, below_trans (below_trans hB Bz) (by go_grown), take_all HD.out HZI.out HP.out⟩
   ·obtain rfl : i = n := by omega
    have i1 : ¬ (i : Int) < (i : Int) := by omega
    obtain rfl : r = true := by rw [← hra.out]; exact all_yes HZL.out HD.out
    go_wp2_with fail
    go_ret
    exact ⟨rfl, hB⟩
 ·have g0 : ((n : Int) != (n' : Int)) = true := by simp; omega
  obtain rfl : r = false := by rw [← hr.out]; exact decide_eq_false (fun e => hnn (by have e2 := congrArg List.length e; rw [List.length_map, List.length_map, HLN.out, HMN.out] at e2; exact e2))
  clear hr
  go_enter Tryd.func40, Tryd.ntmps40
  go_wp2_with fail
  go_ret
  exact ⟨rfl, Below.refl _ _⟩
end Go.Proofs.YtldcfmangolkoaaDoor
namespace Go.Proofs.YtldcfmangolkoaaDoor
open Go.RowKit Tw

theorem sl_litG {α : Type} {f : α → List Value} {k : Nat} {w : World} {b n : Nat} {cs : Array Value} {te : TypeId} {L : List α} (hk : ∀ x, (f x).length = k) (h : Bx w b cs te) (hcs : cs.toList = flat f L) (hl : L.length = n) : Sl f k w (some ⟨b, 0, none⟩) n n L := by
 subst hl
 refine ⟨rfl, by rw [flat_len hk], _, _, rfl, (fun h => (by cases h)), fun a ha j u hu => ?_⟩
 cases ha
 rw [add_off, Nat.zero_add]
 refine h.cell j u ?_
 rw [← hcs] at hu
 simpa using hu
theorem i64_all {L : List Int} (h : (L.all fun x => decide (-9223372036854775808 ≤ x) && decide (x ≤ 9223372036854775807)) = true) : ∀ x ∈ L, I64 x := fun x hx => by
 have h1 := List.all_eq_true.1 h x hx
 rw [Bool.and_eq_true, decide_eq_true_eq, decide_eq_true_eq] at h1
 exact h1
theorem cn_mk {w : World} {A : Option Addr} {n c M : Nat} {L : List Tm} (h1 : Sl Tm.cs 5 w A n c L) (h2 : OnT w L (fun _ => M)) (h3 : A = none → c = 0) : CN w ⟨A, n, c, L⟩ M := ⟨h1, h2, h3⟩
theorem cns_nil (w : World) (M : Nat) : ∀ u ∈ ([] : List Vc), CN w u M := fun u hu => by cases hu
theorem cns_cons {w : World} {v : Vc} {CL : List Vc} {M : Nat} (h : CN w v M) (hs : ∀ u ∈ CL, CN w u M) : ∀ u ∈ v :: CL, CN w u M := fun u hu => by
 rcases List.mem_cons.1 hu with rfl | hu
 ·exact h
 ·exact hs u hu
theorem cm_lit {w : World} {b n M : Nat} {cs : Array Value} {te : TypeId} (CL : List Vc) (h : Bx w b cs te) (hcs : cs.toList = flat Vc.cs CL) (hl : CL.length = n) (hs : ∀ u ∈ CL, CN w u M) (C : List (List (Int × Rat))) (hC : CL.map (fun v => prs v.L) = C) : CM w (some ⟨b, 0, none⟩) n n C M := ⟨CL, sl_litG Vc.cs_len h hcs hl, hs, hC⟩
theorem cm_nil (w : World) (M : Nat) : CM w none 0 0 [] M := ⟨[], Sl.nil _, cns_nil _ _, rfl⟩
theorem wtot_on {w : World} {L : List Tm} {M n : Nat} (h : OnT w L (fun _ => M)) (hn : L.length * M = n) : wtot (prs L) ≤ n := by
 have h1 := wtot_le (m := M) (L := prs L) fun x hx => by
  obtain ⟨t, ht, rfl⟩ := prs_mem hx
  exact (h t ht).2.2
 rwa [prs_len, hn] at h1
theorem wtot_lit {w : World} {M n : Nat} (L : List Tm) (P : List (Int × Rat)) (hp : prs L = P) (h : OnT w L (fun _ => M)) (hn : L.length * M = n) : wtot P ≤ n := by rw [← hp]; exact wtot_on h hn
theorem CM.dg {w : World} {A : Option Addr} {n c M k m : Nat} {C : List (List (Int × Rat))} (h : CM w A n c C M) (hk : (∀ x ∈ C, x.length ≤ k) ∧ k * M = m) : ∀ x ∈ C, x.length ≤ k ∧ wtot x ≤ m := fun x hx => by
 obtain ⟨CL, h1, h2, rfl⟩ := h
 refine ⟨hk.1 x hx, ?_⟩
 obtain ⟨v, hv, rfl⟩ := List.mem_map.1 hx
 refine Nat.le_trans (wtot_on (h2 v hv).2.1 rfl) ?_
 have h3 := hk.1 _ hx
 rw [prs_len] at h3
 rw [← hk.2]
 exact Nat.mul_le_mul_right _ h3
theorem CW.dotK {w : World} {A : Option Addr} {n c M WT N K : Nat} {C : List (List (Int × Rat))} {P : List (Int × Rat)} (h : CW w A n c C M) (hW : wtot P ≤ WT) (hN : P.length ≤ N) (hK : 1 + WT + N * (M + 1) ≤ K) : ∀ x ∈ C, sz (pdot (nrm P) x) ≤ K := fun x hx => by
 obtain ⟨CL, h1, h2, rfl⟩ := h
 obtain ⟨v, hv, rfl⟩ := List.mem_map.1 hx
 have h3 := pdot_tot (K := M + 1) (h2 v hv).getsz (nrm P)
 have h4 := wtot_nrm P
 have h5 := Nat.mul_le_mul_right (M + 1) (Nat.le_trans (nrm_len P) hN)
 omega
theorem turn_err {w : World} {A : Option Addr} {n c : Nat} (k : Int) (hk : k < 0 ∨ 65536 < k) : Calls Tryd.prog 25 #[.slice A n c, .int .i64 k] w fun e w' => e = .returned (.tuple #[.slice none 0 0, .int .i64 2]) ∧ Below w.heap.size w w' :=
 (turn_no k hk).mono fun e w' h => ⟨h.1, by rw [← h.2]; exact Below.refl _ _⟩
theorem turnC {w : World} {A : Option Addr} {n c m M : Nat} {C : List (List (Int × Rat))} (h : CW w A n c C M) (hC : ∀ x ∈ C, x.length ≤ 1000) (hM : M ≤ 18000) (hn : n ≤ 1000000) (hm : m ≤ 65536) (z : Int) (hz : z = (m : Int)) (hT : Hid (Tab w)) :
  Calls Tryd.prog 25 #[.slice A n c, .int .i64 z] w fun e w' => ∃ g, e = .returned (.tuple #[.slice (some ⟨g, 0, none⟩) m m, .int .i64 0]) ∧ CM w' (some ⟨g, 0, none⟩) m m (turnT C m) M ∧ Below w.heap.size w w' := by
 obtain ⟨CL, h1, h2, rfl⟩ := h
 subst hz
 refine (turnV_q h1 (Lib.hid fun v hv => ⟨h2 v hv, ?_⟩) hM hn hm hT).mono fun e w' k => ?_
 ·have h3 := hC _ (List.mem_map_of_mem (f := fun v : Vc => prs v.L) hv)
  have h4 := (h2 v hv).len
  omega
 ·obtain ⟨g, V, rfl, k1, k2, k3, k4⟩ := k
  exact ⟨g, rfl, ⟨V, k1, k2, k3⟩, k4⟩
theorem inverseW {w : World} {A : Option Addr} {n c : Nat} {L : List Int} (h : Sl ics 1 w A n c L) (hw : Hid (∀ x ∈ L, I64 x)) (hn : n ≤ 1000000) (hp : permL L = true) :
  Calls Tryd.prog 18 #[.slice A n c] w fun e w' => ∃ A' c', e = .returned (.tuple #[.slice A' n c', .int .i64 0]) ∧ Sl ics 1 w' A' n c' (invL L) ∧ Below w.heap.size w w' := by
 have hl := h.1
 refine (inverse_q h hw hn).mono fun e w' k => ?_
 rw [if_pos hp] at k
 obtain ⟨A', n', c', rfl, k1, _, k3⟩ := k
 have h3 := k1.1
 rw [show (invL L).length = L.length from invK_len L _] at h3
 obtain rfl : n' = n := by omega
 exact ⟨A', c', rfl, k1, k3⟩
theorem inverse_err {w : World} {A : Option Addr} {n c : Nat} {L : List Int} (h : Sl ics 1 w A n c L) (hw : Hid (∀ x ∈ L, I64 x)) (hn : n ≤ 1000000) (hp : ¬ permL L = true) :
  Calls Tryd.prog 18 #[.slice A n c] w fun e w' => ∃ A' n' c', e = .returned (.tuple #[.slice A' n' c', .int .i64 2]) ∧ Below w.heap.size w w' := by
 refine (inverse_q h hw hn).mono fun e w' k => ?_
 rw [if_neg hp] at k
 obtain ⟨A', n', c', rfl, _, _, k3⟩ := k
 exact ⟨A', n', c', rfl, k3⟩
theorem moveW {w : World} {A X : Option Addr} {n c nx cx M N : Nat} {L : List Int} {P : List (Int × Rat)} (h : Sl ics 1 w A n c L) (hw : Hid (∀ x ∈ L, I64 x)) (hn : n ≤ 1000000) (hp : permL L = true) (hx : GV w X nx cx P M) (hok : okM n (nrm P) = true) (hM : M ≤ 18000) (hnx : nx ≤ N ∧ N ≤ 1000000) (hT : Hid (Tab w)) :
  Calls Tryd.prog 20 #[.slice A n c, .slice X nx cx] w fun e w' => ∃ A' n' c', e = .returned (.tuple #[.slice A' n' c', .int .i64 0]) ∧ NV w' A' n' c' (nrm (movF L (nrm P))) (M + 1) ∧ n' ≤ N ∧ Below w.heap.size w w' := by
 have hl := hx.len
 refine (move_yes h hw hn hp hx hM (by omega) hT).mono fun e w' k => ?_
 unfold TellsMv at k
 rw [if_pos hok] at k
 obtain ⟨A', n', c', rfl, k1, k2⟩ := k
 refine ⟨A', n', c', rfl, k1, ?_, k2⟩
 have h1 := k1.len
 have h2 := nrm_len (movF L (nrm P))
 have h3 := nrm_len P
 have h4 : (movF L (nrm P)).length = (nrm P).length := List.length_map _
 omega
theorem move_err {w : World} {A X : Option Addr} {n c nx cx M : Nat} {L : List Int} {P : List (Int × Rat)} (h : Sl ics 1 w A n c L) (hw : Hid (∀ x ∈ L, I64 x)) (hn : n ≤ 1000000) (hp : permL L = true) (hx : GV w X nx cx P M) (hok : ¬ okM n (nrm P) = true) (hM : M ≤ 18000) (hnx : nx ≤ 1000000) (hT : Hid (Tab w)) :
  Calls Tryd.prog 20 #[.slice A n c, .slice X nx cx] w fun e w' => e = .returned (.tuple #[.slice none 0 0, .int .i64 2]) ∧ Below w.heap.size w w' := by
 refine (move_yes h hw hn hp hx hM hnx hT).mono fun e w' k => ?_
 unfold TellsMv at k
 rw [if_neg hok] at k
 exact k
def TellsT6 (w : World) (at_ : Int) (q : Rat) (e : Ending) (w' : World) : Prop := ∃ s A c l s' A' c' l', e = .returned (.agg #[.int .i64 at_, .bool s, .slice A l c, .bool s', .slice A' l' c']) ∧ RN w' s A c l s' A' c' l' q ∧ Below w.heap.size w w'
set_option maxRecDepth 100000 in
set_option maxHeartbeats 4000000 in
theorem term6_q {w : World} (at_ n : Int) (hn : Hid (-9223372036854775808 ≤ n ∧ n ≤ 9223372036854775807)) (hT : Hid (Tab w)) :
  Calls Tryd.prog 27 #[.int .i64 at_, .int .i64 n] w (TellsT6 w at_ (qof n 1)) := by
 obtain ⟨W, hW, x0, hB⟩ := boxes1 w #[.int .i64 0, .bool false, .slice none 0 0, .bool false, .slice none 0 0] 69
 have HX0 := Lib.hid x0
 clear x0
 have Bz := Below.refl W.heap.size W
 go_enter Tryd.func27, Tryd.ntmps27
 go_wp2_with fail
 rw [← hW]
 clear hW
 go_wp2_with fail
 with_reducible refine (of_q n 1 hn (Lib.hid (by omega)) (Lib.hid (Tab.below hT.out (below_trans hB (below_trans (b := W) Bz (by go_grown)))))).mono ?_
 rintro e w1 ⟨s1, A1, c1, l1, s1r, A1r, c1r, l1r, rfl, h1, b1⟩
 replace b1 := below_trans (a := W) (by go_grown) b1
 replace Bz := below_trans Bz b1
 clear b1
 have p0_0 := (HX0.out.below Bz).cell 0 (.int .i64 0) rfl
 have p0_1 := (HX0.out.below Bz).cell 1 (.bool false) rfl
 have p0_2 := (HX0.out.below Bz).cell 2 (.slice none 0 0) rfl
 have p0_3 := (HX0.out.below Bz).cell 3 (.bool false) rfl
 have p0_4 := (HX0.out.below Bz).cell 4 (.slice none 0 0) rfl
 have f0_0 := (HX0.out.below Bz).frozen 0
 have f0_1 := (HX0.out.below Bz).frozen 1
 have f0_2 := (HX0.out.below Bz).frozen 2
 have f0_3 := (HX0.out.below Bz).frozen 3
 have f0_4 := (HX0.out.below Bz).frozen 4
 have y0 := (HX0.out.below Bz).lt
 go_wp2_with fail
 (try simp only [Exit.inBlock, Exit.then])
 refine bodyPost_ret (by simp [results, Tryd.results27, go_sem, p0_0, p0_1, p0_2, p0_3, p0_4]; try rfl) rfl ?_
 obtain ⟨V1, hW, x, kk, far, bel⟩ := store5 (.int .i64 at_) (.bool s1) (.slice A1 l1 c1) (.bool s1r) (.slice A1r l1r c1r) (HX0.out.below Bz) (fun _ e => by cases e) (fun _ e => by cases e) (fun _ e => by cases e) (fun _ e => by cases e) (fun _ e => by cases e)
 rw [← hW]
 clear hW
 replace h1 := h1.k kk
 replace hB := bel w.heap.size w (by omega) (below_trans hB Bz)
 replace HX0 := Lib.hid x
 clear x kk far bel Bz
 have Bz := Below.refl V1.heap.size V1
 have hF := below_trans (c := V1) hB Bz
 exact ⟨_, _, _, _, _, _, _, _, rfl, RN.below h1 (by go_grown), below_trans hF (by go_grown)⟩
abbrev colsP : List (List (Int × Rat)) := [[(0, qof (1) 1), (1, qof (2) 1)], [(1, qof (3) 1)]]
theorem colsP_rise : ∀ x ∈ colsP, Rise x := fun x hx => by
 have h : (colsP.all fun c => decide (c.Pairwise fun x y => x.1 < y.1)) = true := by decide +kernel
 exact (of_decide_eq_true (List.all_eq_true.1 h x hx) : x.Pairwise fun x y => x.1 < y.1)
set_option maxRecDepth 100000 in
set_option maxHeartbeats 4000000 in
theorem cols_q {w : World} (hT : Hid (Tab w)) : Calls Tryd.prog 26 #[] w fun e w' => ∃ A c, e = .returned (.slice A 2 c) ∧ CM w' A 2 c colsP 2 ∧ Below w.heap.size w w' := by
 have hB := Below.refl w.heap.size w
 have Bz := Below.refl w.heap.size w
 go_enter Tryd.func26, Tryd.ntmps26
 go_wp2_with fail
 with_reducible refine (term6_q (0) (1) (Lib.hid (by omega)) (Lib.hid (Tab.below hT.out (below_trans hB (below_trans (b := w) Bz (by go_grown)))))).mono ?_
 rintro e w1 ⟨s1, A1, c1, l1, s1r, A1r, c1r, l1r, rfl, h1, b1⟩
 replace b1 := below_trans (a := w) (by go_grown) b1
 replace Bz := below_trans Bz b1
 clear b1
 go_wp2_with fail
 with_reducible refine (term6_q (1) (2) (Lib.hid (by omega)) (Lib.hid (Tab.below hT.out (below_trans hB (below_trans (b := w1) Bz (by go_grown)))))).mono ?_
 rintro e w2 ⟨s2, A2, c2, l2, s2r, A2r, c2r, l2r, rfl, h2, b2⟩
 replace b2 := below_trans (a := w1) (by go_grown) b2
 replace h1 := h1.below b2
 replace Bz := below_trans Bz b2
 clear b2
 go_wp2_with fail
 obtain ⟨V1, hW, x0, hN⟩ := boxes1 w2 #[.int .i64 0, .bool s1, .slice A1 l1 c1, .bool s1r, .slice A1r l1r c1r, .int .i64 1, .bool s2, .slice A2 l2 c2, .bool s2r, .slice A2r l2r c2r] 69
 rw [← hW]
 clear hW
 obtain ⟨v0, hb0⟩ : ∃ b, b = w2.heap.size := ⟨_, rfl⟩
 rw [← hb0] at x0 ⊢
 have ow_0 : w.heap.size ≤ v0 := by have := hB.size; have := Bz.size; omega
 replace h1 := h1.below hN
 replace h2 := h2.below hN
 replace hB := below_trans (below_trans hB Bz) hN
 have HX0 := Lib.hid x0
 clear x0 hN Bz hb0
 have Bz := Below.refl V1.heap.size V1
 with_reducible refine (term6_q (1) (3) (Lib.hid (by omega)) (Lib.hid (Tab.below hT.out (below_trans hB (below_trans (b := V1) Bz (by go_grown)))))).mono ?_
 rintro e w3 ⟨s3, A3, c3, l3, s3r, A3r, c3r, l3r, rfl, h3, b3⟩
 replace b3 := below_trans (a := V1) (by go_grown) b3
 replace h1 := h1.below b3
 replace h2 := h2.below b3
 replace Bz := below_trans Bz b3
 clear b3
 go_wp2_with fail
 obtain ⟨V2, hW, x1, hN⟩ := boxes1 w3 #[.int .i64 1, .bool s3, .slice A3 l3 c3, .bool s3r, .slice A3r l3r c3r] 69
 have hs1 : V2.heap.size = w3.heap.size + 1 := by rw [hW]; simp
 rw [← hW]
 clear hW
 obtain ⟨v1, hb1⟩ : ∃ b, b = w3.heap.size := ⟨_, rfl⟩
 rw [← hb1] at x1 hs1 ⊢
 have o0_1 : v0 < v1 := by have := (HX0.out.below Bz).lt; omega
 have ow_1 : w.heap.size ≤ v1 := by have := hB.size; have := Bz.size; omega
 replace h1 := h1.below hN
 replace h2 := h2.below hN
 replace h3 := h3.below hN
 replace hB := below_trans (below_trans hB Bz) hN
 replace HX0 := Lib.hid ((HX0.out.below Bz).below hN)
 have HX1 := Lib.hid x1
 clear x1 hN Bz hb1
 have Bz := Below.refl V2.heap.size V2
 obtain ⟨V3, hW, x2, hN⟩ := boxes1 V2 #[.slice (some ⟨v0, 0, none⟩) 2 2, .slice (some ⟨v1, 0, none⟩) 1 1] 57
 have hs2 : V3.heap.size = V2.heap.size + 1 := by rw [hW]; simp
 rw [← hW]
 clear hW
 rw [hs1] at x2 hs2
 obtain ⟨v2, hb2⟩ : ∃ b, b = v1 + 1 := ⟨_, rfl⟩
 rw [← hb2] at x2 hs2  ⊢
 have o0_2 : v0 < v2 := by have := (HX0.out.below Bz).lt; omega
 have o1_2 : v1 < v2 := by have := (HX1.out.below Bz).lt; omega
 have ow_2 : w.heap.size ≤ v2 := by have := hB.size; have := Bz.size; omega
 replace h1 := h1.below hN
 replace h2 := h2.below hN
 replace h3 := h3.below hN
 replace hB := below_trans (below_trans hB Bz) hN
 replace HX0 := Lib.hid ((HX0.out.below Bz).below hN)
 replace HX1 := Lib.hid ((HX1.out.below Bz).below hN)
 have HX2 := Lib.hid x2
 clear x2 hN Bz hb2
 have Bz := Below.refl V3.heap.size V3
 clear hs1
 go_ret
 have hF := below_trans (c := V3) hB Bz
 exact ⟨_, _, rfl, (cm_lit (n := 2) (M := 2) [⟨some ⟨v0, 0, none⟩, 2, 2, [⟨0, ⟨s1, A1, c1, l1, s1r, A1r, c1r, l1r, qof (1) 1, true⟩⟩, ⟨1, ⟨s2, A2, c2, l2, s2r, A2r, c2r, l2r, qof (2) 1, true⟩⟩]⟩, ⟨some ⟨v1, 0, none⟩, 1, 1, [⟨1, ⟨s3, A3, c3, l3, s3r, A3r, c3r, l3r, qof (3) 1, true⟩⟩]⟩] (HX2.out.below (below_trans Bz (by go_grown))) rfl rfl (cns_cons (v := ⟨some ⟨v0, 0, none⟩, 2, 2, [⟨0, ⟨s1, A1, c1, l1, s1r, A1r, c1r, l1r, qof (1) 1, true⟩⟩, ⟨1, ⟨s2, A2, c2, l2, s2r, A2r, c2r, l2r, qof (2) 1, true⟩⟩]⟩) (cn_mk (sl_lit (HX0.out.below (below_trans Bz (by go_grown))) rfl rfl) (OnT.c 0 (RN.below h1 (by go_grown)) (sz_one (by decide) (by decide) (by decide)) (OnT.c 1 (RN.below h2 (by go_grown)) (sz_one (by decide) (by decide) (by decide)) (OnT.nil _ _))) (fun h => (by cases h))) (cns_cons (v := ⟨some ⟨v1, 0, none⟩, 1, 1, [⟨1, ⟨s3, A3, c3, l3, s3r, A3r, c3r, l3r, qof (3) 1, true⟩⟩]⟩) (cn_mk (sl_lit (HX1.out.below (below_trans Bz (by go_grown))) rfl rfl) (OnT.c 1 (RN.below h3 (by go_grown)) (sz_one (by decide) (by decide) (by decide)) (OnT.nil _ _)) (fun h => (by cases h))) (cns_nil _ _))) [[(0, qof (1) 1), (1, qof (2) 1)], [(1, qof (3) 1)]] rfl), below_trans hF (by go_grown)⟩
set_option maxRecDepth 100000 in
set_option maxHeartbeats 8000000 in
theorem awake6_q {w : World} (hT : Hid (Tab w)) : Calls Tryd.prog 16 #[] w fun e w' => e = .returned (.bool true) ∧ Below w.heap.size w w' := by
 have hB := Below.refl w.heap.size w
 have Bz := Below.refl w.heap.size w
 go_enter Tryd.func16, Tryd.ntmps16
 go_wp2_with fail
 with_reducible refine (cols_q (Lib.hid (Tab.below hT.out (below_trans hB (below_trans (b := w) Bz (by go_grown)))))).mono ?_
 rintro e w1 ⟨A1, c1, rfl, h1, b1⟩
 replace b1 := below_trans (a := w) (by go_grown) b1
 replace Bz := below_trans Bz b1
 clear b1
 go_wp2_with fail
 with_reducible refine (term6_q (0) (1) (Lib.hid (by omega)) (Lib.hid (Tab.below hT.out (below_trans hB (below_trans (b := w1) Bz (by go_grown)))))).mono ?_
 rintro e w2 ⟨s2, A2, c2, l2, s2r, A2r, c2r, l2r, rfl, h2, b2⟩
 replace b2 := below_trans (a := w1) (by go_grown) b2
 replace h1 := h1.below b2
 replace Bz := below_trans Bz b2
 clear b2
 go_wp2_with fail
 with_reducible refine (term6_q (1) (1) (Lib.hid (by omega)) (Lib.hid (Tab.below hT.out (below_trans hB (below_trans (b := w2) Bz (by go_grown)))))).mono ?_
 rintro e w3 ⟨s3, A3, c3, l3, s3r, A3r, c3r, l3r, rfl, h3, b3⟩
 replace b3 := below_trans (a := w2) (by go_grown) b3
 replace h1 := h1.below b3
 replace h2 := h2.below b3
 replace Bz := below_trans Bz b3
 clear b3
 go_wp2_with fail
 obtain ⟨V1, hW, x0, hN⟩ := boxes1 w3 #[.int .i64 0, .bool s2, .slice A2 l2 c2, .bool s2r, .slice A2r l2r c2r, .int .i64 1, .bool s3, .slice A3 l3 c3, .bool s3r, .slice A3r l3r c3r] 69
 rw [← hW]
 clear hW
 obtain ⟨v0, hb0⟩ : ∃ b, b = w3.heap.size := ⟨_, rfl⟩
 rw [← hb0] at x0 ⊢
 have ow_0 : w.heap.size ≤ v0 := by have := hB.size; have := Bz.size; omega
 replace h1 := h1.below hN
 replace h2 := h2.below hN
 replace h3 := h3.below hN
 replace hB := below_trans (below_trans hB Bz) hN
 have HX0 := Lib.hid x0
 clear x0 hN Bz hb0
 have Bz := Below.refl V1.heap.size V1
 with_reducible refine (timesW 6 3 2 4 2 4 16 4 (CM.cw (CM.below h1 (by go_grown)) colsP_rise) (gv_lit (n := 2) [⟨0, ⟨s2, A2, c2, l2, s2r, A2r, c2r, l2r, qof (1) 1, true⟩⟩, ⟨1, ⟨s3, A3, c3, l3, s3r, A3r, c3r, l3r, qof (1) 1, true⟩⟩] [(0, qof (1) 1), (1, qof (1) 1)] rfl (HX0.out.below (below_trans Bz (by go_grown))) rfl rfl (OnT.c 0 (RN.below h2 (by go_grown)) (sz_one (by decide) (by decide) (by decide)) (OnT.c 1 (RN.below h3 (by go_grown)) (sz_one (by decide) (by decide) (by decide)) (OnT.nil _ _)))) (CM.dg (CM.below h1 (by go_grown)) (by decide)) (by decide) (wtot_lit (n := 4) [⟨0, ⟨s2, A2, c2, l2, s2r, A2r, c2r, l2r, qof (1) 1, true⟩⟩, ⟨1, ⟨s3, A3, c3, l3, s3r, A3r, c3r, l3r, qof (1) 1, true⟩⟩] [(0, qof (1) 1), (1, qof (1) 1)] rfl (OnT.c 0 (RN.below h2 (by go_grown)) (sz_one (by decide) (by decide) (by decide)) (OnT.c 1 (RN.below h3 (by go_grown)) (sz_one (by decide) (by decide) (by decide)) (OnT.nil _ _))) rfl) (by decide) (by decide) (by decide) (by decide) (by decide) (by decide) (by decide) (by decide) (Lib.hid (Tab.below hT.out (below_trans hB (below_trans (b := V1) Bz (by go_grown)))))).mono ?_
 rintro e w4 ⟨A4, n4, c4, rfl, h4, l4, b4⟩
 replace b4 := below_trans (a := V1) (by go_grown) b4
 replace Bz := below_trans Bz b4
 clear b4
 go_wp2_with fail
 with_reducible refine (term6_q (1) (1) (Lib.hid (by omega)) (Lib.hid (Tab.below hT.out (below_trans hB (below_trans (b := w4) Bz (by go_grown)))))).mono ?_
 rintro e w5 ⟨s5, A5, c5, l5, s5r, A5r, c5r, l5r, rfl, h5, b5⟩
 replace b5 := below_trans (a := w4) (by go_grown) b5
 replace h4 := h4.below b5
 replace Bz := below_trans Bz b5
 clear b5
 go_wp2_with fail
 obtain ⟨V2, hW, x1, hN⟩ := boxes1 w5 #[.int .i64 1, .bool s5, .slice A5 l5 c5, .bool s5r, .slice A5r l5r c5r] 69
 rw [← hW]
 clear hW
 obtain ⟨v1, hb1⟩ : ∃ b, b = w5.heap.size := ⟨_, rfl⟩
 rw [← hb1] at x1 ⊢
 have o0_1 : v0 < v1 := by have := (HX0.out.below Bz).lt; omega
 have ow_1 : w.heap.size ≤ v1 := by have := hB.size; have := Bz.size; omega
 replace h5 := h5.below hN
 replace h4 := h4.below hN
 replace hB := below_trans (below_trans hB Bz) hN
 replace HX0 := Lib.hid ((HX0.out.below Bz).below hN)
 have HX1 := Lib.hid x1
 clear x1 hN Bz hb1
 have Bz := Below.refl V2.heap.size V2
 with_reducible refine (cols_q (Lib.hid (Tab.below hT.out (below_trans hB (below_trans (b := V2) Bz (by go_grown)))))).mono ?_
 rintro e w6 ⟨A6, c6, rfl, h6, b6⟩
 replace b6 := below_trans (a := V2) (by go_grown) b6
 replace h5 := h5.below b6
 replace h4 := h4.below b6
 replace Bz := below_trans Bz b6
 clear b6
 go_wp2_with fail
 with_reducible refine (leftC 3 3 1 7 2 (gv_lit (n := 1) [⟨1, ⟨s5, A5, c5, l5, s5r, A5r, c5r, l5r, qof (1) 1, true⟩⟩] [(1, qof (1) 1)] rfl (HX1.out.below (below_trans Bz (by go_grown))) rfl rfl (OnT.c 1 (RN.below h5 (by go_grown)) (sz_one (by decide) (by decide) (by decide)) (OnT.nil _ _))) (CM.cw (CM.below h6 (by go_grown)) colsP_rise) (by decide) (by decide) (by decide) (by decide) (CW.dotK (WT := 2) (N := 1) (CM.cw (CM.below h6 (by go_grown)) colsP_rise) (wtot_lit (n := 2) [⟨1, ⟨s5, A5, c5, l5, s5r, A5r, c5r, l5r, qof (1) 1, true⟩⟩] [(1, qof (1) 1)] rfl (OnT.c 1 (RN.below h5 (by go_grown)) (sz_one (by decide) (by decide) (by decide)) (OnT.nil _ _)) rfl) (by decide) (by decide)) (by decide) (by decide) (by decide) (by decide) (by decide) (by decide) (Lib.hid (Tab.below hT.out (below_trans hB (below_trans (b := w6) Bz (by go_grown)))))).mono ?_
 rintro e w7 ⟨A7, n7, c7, rfl, h7, l7, b7⟩
 replace b7 := below_trans (a := w6) (by go_grown) b7
 replace h4 := h4.below b7
 replace Bz := below_trans Bz b7
 clear b7
 go_wp2_with fail
 with_reducible refine (cols_q (Lib.hid (Tab.below hT.out (below_trans hB (below_trans (b := w7) Bz (by go_grown)))))).mono ?_
 rintro e w8 ⟨A8, c8, rfl, h8, b8⟩
 replace b8 := below_trans (a := w7) (by go_grown) b8
 replace h4 := h4.below b8
 replace h7 := h7.below b8
 replace Bz := below_trans Bz b8
 clear b8
 go_wp2_with fail
 with_reducible refine (turnC (m := 2) (CM.cw (CM.below h8 (by go_grown)) colsP_rise) (by decide) (by decide) (by decide) (by decide) 2 rfl (Lib.hid (Tab.below hT.out (below_trans hB (below_trans (b := w8) Bz (by go_grown)))))).mono ?_
 rintro e w9 ⟨g9, rfl, h9, b9⟩
 replace b9 := below_trans (a := w8) (by go_grown) b9
 replace h4 := h4.below b9
 replace h7 := h7.below b9
 replace Bz := below_trans Bz b9
 clear b9
 go_wp2_with fail
 obtain ⟨V3, hW, x2, hN⟩ := boxes1 w9 #[.int .i64 2, .int .i64 0, .int .i64 1] 3
 rw [← hW]
 clear hW
 obtain ⟨v2, hb2⟩ : ∃ b, b = w9.heap.size := ⟨_, rfl⟩
 rw [← hb2] at x2 ⊢
 have o0_2 : v0 < v2 := by have := (HX0.out.below Bz).lt; omega
 have o1_2 : v1 < v2 := by have := (HX1.out.below Bz).lt; omega
 have ow_2 : w.heap.size ≤ v2 := by have := hB.size; have := Bz.size; omega
 replace h9 := h9.below hN
 replace h4 := h4.below hN
 replace h7 := h7.below hN
 replace hB := below_trans (below_trans hB Bz) hN
 replace HX0 := Lib.hid ((HX0.out.below Bz).below hN)
 replace HX1 := Lib.hid ((HX1.out.below Bz).below hN)
 have HX2 := Lib.hid x2
 clear x2 hN Bz hb2
 have Bz := Below.refl V3.heap.size V3
 with_reducible refine (inverseW (sl_litG (L := [2, 0, 1]) (n := 3) ics_len (HX2.out.below (below_trans Bz (by go_grown))) rfl rfl) (Lib.hid (i64_all (by decide))) (by decide) (by decide)).mono ?_
 rintro e w10 ⟨A10, c10, rfl, h10, b10⟩
 replace b10 := below_trans (a := V3) (by go_grown) b10
 replace h9 := h9.below b10
 replace h4 := h4.below b10
 replace h7 := h7.below b10
 replace Bz := below_trans Bz b10
 clear b10
 go_wp2_with fail
 obtain ⟨V4, hW, x3, hN⟩ := boxes1 w10 #[.int .i64 2, .int .i64 0, .int .i64 1] 3
 rw [← hW]
 clear hW
 obtain ⟨v3, hb3⟩ : ∃ b, b = w10.heap.size := ⟨_, rfl⟩
 rw [← hb3] at x3 ⊢
 have o0_3 : v0 < v3 := by have := (HX0.out.below Bz).lt; omega
 have o1_3 : v1 < v3 := by have := (HX1.out.below Bz).lt; omega
 have o2_3 : v2 < v3 := by have := (HX2.out.below Bz).lt; omega
 have ow_3 : w.heap.size ≤ v3 := by have := hB.size; have := Bz.size; omega
 replace h9 := h9.below hN
 replace h10 := h10.below hN
 replace h4 := h4.below hN
 replace h7 := h7.below hN
 replace hB := below_trans (below_trans hB Bz) hN
 replace HX0 := Lib.hid ((HX0.out.below Bz).below hN)
 replace HX1 := Lib.hid ((HX1.out.below Bz).below hN)
 replace HX2 := Lib.hid ((HX2.out.below Bz).below hN)
 have HX3 := Lib.hid x3
 clear x3 hN Bz hb3
 have Bz := Below.refl V4.heap.size V4
 with_reducible refine (term6_q (0) (5) (Lib.hid (by omega)) (Lib.hid (Tab.below hT.out (below_trans hB (below_trans (b := V4) Bz (by go_grown)))))).mono ?_
 rintro e w11 ⟨s11, A11, c11, l11, s11r, A11r, c11r, l11r, rfl, h11, b11⟩
 replace b11 := below_trans (a := V4) (by go_grown) b11
 replace h9 := h9.below b11
 replace h10 := h10.below b11
 replace h4 := h4.below b11
 replace h7 := h7.below b11
 replace Bz := below_trans Bz b11
 clear b11
 go_wp2_with fail
 obtain ⟨V5, hW, x4, hN⟩ := boxes1 w11 #[.int .i64 0, .bool s11, .slice A11 l11 c11, .bool s11r, .slice A11r l11r c11r] 69
 rw [← hW]
 clear hW
 obtain ⟨v4, hb4⟩ : ∃ b, b = w11.heap.size := ⟨_, rfl⟩
 rw [← hb4] at x4 ⊢
 have o0_4 : v0 < v4 := by have := (HX0.out.below Bz).lt; omega
 have o1_4 : v1 < v4 := by have := (HX1.out.below Bz).lt; omega
 have o2_4 : v2 < v4 := by have := (HX2.out.below Bz).lt; omega
 have o3_4 : v3 < v4 := by have := (HX3.out.below Bz).lt; omega
 have ow_4 : w.heap.size ≤ v4 := by have := hB.size; have := Bz.size; omega
 replace h9 := h9.below hN
 replace h10 := h10.below hN
 replace h11 := h11.below hN
 replace h4 := h4.below hN
 replace h7 := h7.below hN
 replace hB := below_trans (below_trans hB Bz) hN
 replace HX0 := Lib.hid ((HX0.out.below Bz).below hN)
 replace HX1 := Lib.hid ((HX1.out.below Bz).below hN)
 replace HX2 := Lib.hid ((HX2.out.below Bz).below hN)
 replace HX3 := Lib.hid ((HX3.out.below Bz).below hN)
 have HX4 := Lib.hid x4
 clear x4 hN Bz hb4
 have Bz := Below.refl V5.heap.size V5
 with_reducible refine (moveW (N := 1) (sl_litG (L := [2, 0, 1]) (n := 3) ics_len (HX3.out.below (below_trans Bz (by go_grown))) rfl rfl) (Lib.hid (i64_all (by decide))) (by decide) (by decide) (gv_lit (n := 1) [⟨0, ⟨s11, A11, c11, l11, s11r, A11r, c11r, l11r, qof (5) 1, true⟩⟩] [(0, qof (5) 1)] rfl (HX4.out.below (below_trans Bz (by go_grown))) rfl rfl (OnT.c 0 (RN.below h11 (by go_grown)) (sz_one (by decide) (by decide) (by decide)) (OnT.nil _ _))) (by decide +kernel) (by decide) (by decide) (Lib.hid (Tab.below hT.out (below_trans hB (below_trans (b := V5) Bz (by go_grown)))))).mono ?_
 rintro e w12 ⟨A12, n12, c12, rfl, h12, l12, b12⟩
 replace b12 := below_trans (a := V5) (by go_grown) b12
 replace h9 := h9.below b12
 replace h10 := h10.below b12
 replace h4 := h4.below b12
 replace h7 := h7.below b12
 replace Bz := below_trans Bz b12
 clear b12
 go_wp2_with fail
 with_reducible refine (term6_q (0) (1) (Lib.hid (by omega)) (Lib.hid (Tab.below hT.out (below_trans hB (below_trans (b := w12) Bz (by go_grown)))))).mono ?_
 rintro e w13 ⟨s13, A13, c13, l13, s13r, A13r, c13r, l13r, rfl, h13, b13⟩
 replace b13 := below_trans (a := w12) (by go_grown) b13
 replace h9 := h9.below b13
 replace h10 := h10.below b13
 replace h12 := h12.below b13
 replace h4 := h4.below b13
 replace h7 := h7.below b13
 replace Bz := below_trans Bz b13
 clear b13
 go_wp2_with fail
 with_reducible refine (term6_q (1) (5) (Lib.hid (by omega)) (Lib.hid (Tab.below hT.out (below_trans hB (below_trans (b := w13) Bz (by go_grown)))))).mono ?_
 rintro e w14 ⟨s14, A14, c14, l14, s14r, A14r, c14r, l14r, rfl, h14, b14⟩
 replace b14 := below_trans (a := w13) (by go_grown) b14
 replace h9 := h9.below b14
 replace h10 := h10.below b14
 replace h13 := h13.below b14
 replace h12 := h12.below b14
 replace h4 := h4.below b14
 replace h7 := h7.below b14
 replace Bz := below_trans Bz b14
 clear b14
 go_wp2_with fail
 obtain ⟨V6, hW, x5, hN⟩ := boxes1 w14 #[.int .i64 0, .bool s13, .slice A13 l13 c13, .bool s13r, .slice A13r l13r c13r, .int .i64 1, .bool s14, .slice A14 l14 c14, .bool s14r, .slice A14r l14r c14r] 69
 rw [← hW]
 clear hW
 obtain ⟨v5, hb5⟩ : ∃ b, b = w14.heap.size := ⟨_, rfl⟩
 rw [← hb5] at x5 ⊢
 have o0_5 : v0 < v5 := by have := (HX0.out.below Bz).lt; omega
 have o1_5 : v1 < v5 := by have := (HX1.out.below Bz).lt; omega
 have o2_5 : v2 < v5 := by have := (HX2.out.below Bz).lt; omega
 have o3_5 : v3 < v5 := by have := (HX3.out.below Bz).lt; omega
 have o4_5 : v4 < v5 := by have := (HX4.out.below Bz).lt; omega
 have ow_5 : w.heap.size ≤ v5 := by have := hB.size; have := Bz.size; omega
 replace h9 := h9.below hN
 replace h10 := h10.below hN
 replace h13 := h13.below hN
 replace h14 := h14.below hN
 replace h12 := h12.below hN
 replace h4 := h4.below hN
 replace h7 := h7.below hN
 replace hB := below_trans (below_trans hB Bz) hN
 replace HX0 := Lib.hid ((HX0.out.below Bz).below hN)
 replace HX1 := Lib.hid ((HX1.out.below Bz).below hN)
 replace HX2 := Lib.hid ((HX2.out.below Bz).below hN)
 replace HX3 := Lib.hid ((HX3.out.below Bz).below hN)
 replace HX4 := Lib.hid ((HX4.out.below Bz).below hN)
 have HX5 := Lib.hid x5
 clear x5 hN Bz hb5
 have Bz := Below.refl V6.heap.size V6
 with_reducible refine (sameVec_q (P := nrm (timesP colsP (nrm [(0, qof (1) 1), (1, qof (1) 1)]))) (Q := [(0, qof (1) 1), (1, qof (5) 1)]) (NV.below h4 (by go_grown)) (nv_lit (n := 2) [⟨0, ⟨s13, A13, c13, l13, s13r, A13r, c13r, l13r, qof (1) 1, true⟩⟩, ⟨1, ⟨s14, A14, c14, l14, s14r, A14r, c14r, l14r, qof (5) 1, true⟩⟩] [(0, qof (1) 1), (1, qof (5) 1)] rfl (HX5.out.below (below_trans Bz (by go_grown))) rfl rfl (OnT.c 0 (RN.below h13 (by go_grown)) (sz_one (by decide) (by decide) (by decide)) (OnT.c 1 (RN.below h14 (by go_grown)) (sz_one (by decide) (by decide) (by decide)) (OnT.nil _ _)))) (by decide) (by decide) (by omega) (by omega) true (Lib.hid (by decide +kernel))).mono ?_
 rintro e w15 ⟨rfl, b15⟩
 replace b15 := below_trans (a := V6) (by go_grown) b15
 replace h9 := h9.below b15
 replace h10 := h10.below b15
 replace h12 := h12.below b15
 replace h7 := h7.below b15
 replace Bz := below_trans Bz b15
 clear b15
 go_wp2_with fail
 with_reducible refine (term6_q (0) (2) (Lib.hid (by omega)) (Lib.hid (Tab.below hT.out (below_trans hB (below_trans (b := w15) Bz (by go_grown)))))).mono ?_
 rintro e w16 ⟨s16, A16, c16, l16, s16r, A16r, c16r, l16r, rfl, h16, b16⟩
 replace b16 := below_trans (a := w15) (by go_grown) b16
 replace h9 := h9.below b16
 replace h10 := h10.below b16
 replace h12 := h12.below b16
 replace h7 := h7.below b16
 replace Bz := below_trans Bz b16
 clear b16
 go_wp2_with fail
 with_reducible refine (term6_q (1) (3) (Lib.hid (by omega)) (Lib.hid (Tab.below hT.out (below_trans hB (below_trans (b := w16) Bz (by go_grown)))))).mono ?_
 rintro e w17 ⟨s17, A17, c17, l17, s17r, A17r, c17r, l17r, rfl, h17, b17⟩
 replace b17 := below_trans (a := w16) (by go_grown) b17
 replace h9 := h9.below b17
 replace h10 := h10.below b17
 replace h16 := h16.below b17
 replace h12 := h12.below b17
 replace h7 := h7.below b17
 replace Bz := below_trans Bz b17
 clear b17
 go_wp2_with fail
 obtain ⟨V7, hW, x6, hN⟩ := boxes1 w17 #[.int .i64 0, .bool s16, .slice A16 l16 c16, .bool s16r, .slice A16r l16r c16r, .int .i64 1, .bool s17, .slice A17 l17 c17, .bool s17r, .slice A17r l17r c17r] 69
 rw [← hW]
 clear hW
 obtain ⟨v6, hb6⟩ : ∃ b, b = w17.heap.size := ⟨_, rfl⟩
 rw [← hb6] at x6 ⊢
 have o0_6 : v0 < v6 := by have := (HX0.out.below Bz).lt; omega
 have o1_6 : v1 < v6 := by have := (HX1.out.below Bz).lt; omega
 have o2_6 : v2 < v6 := by have := (HX2.out.below Bz).lt; omega
 have o3_6 : v3 < v6 := by have := (HX3.out.below Bz).lt; omega
 have o4_6 : v4 < v6 := by have := (HX4.out.below Bz).lt; omega
 have o5_6 : v5 < v6 := by have := (HX5.out.below Bz).lt; omega
 have ow_6 : w.heap.size ≤ v6 := by have := hB.size; have := Bz.size; omega
 replace h9 := h9.below hN
 replace h10 := h10.below hN
 replace h16 := h16.below hN
 replace h17 := h17.below hN
 replace h12 := h12.below hN
 replace h7 := h7.below hN
 replace hB := below_trans (below_trans hB Bz) hN
 replace HX0 := Lib.hid ((HX0.out.below Bz).below hN)
 replace HX1 := Lib.hid ((HX1.out.below Bz).below hN)
 replace HX2 := Lib.hid ((HX2.out.below Bz).below hN)
 replace HX3 := Lib.hid ((HX3.out.below Bz).below hN)
 replace HX4 := Lib.hid ((HX4.out.below Bz).below hN)
 replace HX5 := Lib.hid ((HX5.out.below Bz).below hN)
 have HX6 := Lib.hid x6
 clear x6 hN Bz hb6
 have Bz := Below.refl V7.heap.size V7
 with_reducible refine (sameVec_q (P := nrm (idxP (colsP.map fun x => pdot [(1, qof (1) 1)] x))) (Q := [(0, qof (2) 1), (1, qof (3) 1)]) (NV.below h7 (by go_grown)) (nv_lit (n := 2) [⟨0, ⟨s16, A16, c16, l16, s16r, A16r, c16r, l16r, qof (2) 1, true⟩⟩, ⟨1, ⟨s17, A17, c17, l17, s17r, A17r, c17r, l17r, qof (3) 1, true⟩⟩] [(0, qof (2) 1), (1, qof (3) 1)] rfl (HX6.out.below (below_trans Bz (by go_grown))) rfl rfl (OnT.c 0 (RN.below h16 (by go_grown)) (sz_one (by decide) (by decide) (by decide)) (OnT.c 1 (RN.below h17 (by go_grown)) (sz_one (by decide) (by decide) (by decide)) (OnT.nil _ _)))) (by decide) (by decide) (by omega) (by omega) true (Lib.hid (by decide +kernel))).mono ?_
 rintro e w18 ⟨rfl, b18⟩
 replace b18 := below_trans (a := V7) (by go_grown) b18
 replace h9 := h9.below b18
 replace h10 := h10.below b18
 replace h12 := h12.below b18
 replace Bz := below_trans Bz b18
 clear b18
 go_wp2_with fail
 with_reducible refine (term6_q (0) (1) (Lib.hid (by omega)) (Lib.hid (Tab.below hT.out (below_trans hB (below_trans (b := w18) Bz (by go_grown)))))).mono ?_
 rintro e w19 ⟨s19, A19, c19, l19, s19r, A19r, c19r, l19r, rfl, h19, b19⟩
 replace b19 := below_trans (a := w18) (by go_grown) b19
 replace h9 := h9.below b19
 replace h10 := h10.below b19
 replace h12 := h12.below b19
 replace Bz := below_trans Bz b19
 clear b19
 go_wp2_with fail
 obtain ⟨V8, hW, x7, hN⟩ := boxes1 w19 #[.int .i64 0, .bool s19, .slice A19 l19 c19, .bool s19r, .slice A19r l19r c19r] 69
 rw [← hW]
 clear hW
 obtain ⟨v7, hb7⟩ : ∃ b, b = w19.heap.size := ⟨_, rfl⟩
 rw [← hb7] at x7 ⊢
 have o0_7 : v0 < v7 := by have := (HX0.out.below Bz).lt; omega
 have o1_7 : v1 < v7 := by have := (HX1.out.below Bz).lt; omega
 have o2_7 : v2 < v7 := by have := (HX2.out.below Bz).lt; omega
 have o3_7 : v3 < v7 := by have := (HX3.out.below Bz).lt; omega
 have o4_7 : v4 < v7 := by have := (HX4.out.below Bz).lt; omega
 have o5_7 : v5 < v7 := by have := (HX5.out.below Bz).lt; omega
 have o6_7 : v6 < v7 := by have := (HX6.out.below Bz).lt; omega
 have ow_7 : w.heap.size ≤ v7 := by have := hB.size; have := Bz.size; omega
 replace h9 := h9.below hN
 replace h10 := h10.below hN
 replace h19 := h19.below hN
 replace h12 := h12.below hN
 replace hB := below_trans (below_trans hB Bz) hN
 replace HX0 := Lib.hid ((HX0.out.below Bz).below hN)
 replace HX1 := Lib.hid ((HX1.out.below Bz).below hN)
 replace HX2 := Lib.hid ((HX2.out.below Bz).below hN)
 replace HX3 := Lib.hid ((HX3.out.below Bz).below hN)
 replace HX4 := Lib.hid ((HX4.out.below Bz).below hN)
 replace HX5 := Lib.hid ((HX5.out.below Bz).below hN)
 replace HX6 := Lib.hid ((HX6.out.below Bz).below hN)
 have HX7 := Lib.hid x7
 clear x7 hN Bz hb7
 have Bz := Below.refl V8.heap.size V8
 with_reducible refine (term6_q (0) (2) (Lib.hid (by omega)) (Lib.hid (Tab.below hT.out (below_trans hB (below_trans (b := V8) Bz (by go_grown)))))).mono ?_
 rintro e w20 ⟨s20, A20, c20, l20, s20r, A20r, c20r, l20r, rfl, h20, b20⟩
 replace b20 := below_trans (a := V8) (by go_grown) b20
 replace h9 := h9.below b20
 replace h10 := h10.below b20
 replace h19 := h19.below b20
 replace h12 := h12.below b20
 replace Bz := below_trans Bz b20
 clear b20
 go_wp2_with fail
 with_reducible refine (term6_q (1) (3) (Lib.hid (by omega)) (Lib.hid (Tab.below hT.out (below_trans hB (below_trans (b := w20) Bz (by go_grown)))))).mono ?_
 rintro e w21 ⟨s21, A21, c21, l21, s21r, A21r, c21r, l21r, rfl, h21, b21⟩
 replace b21 := below_trans (a := w20) (by go_grown) b21
 replace h9 := h9.below b21
 replace h10 := h10.below b21
 replace h19 := h19.below b21
 replace h20 := h20.below b21
 replace h12 := h12.below b21
 replace Bz := below_trans Bz b21
 clear b21
 go_wp2_with fail
 obtain ⟨V9, hW, x8, hN⟩ := boxes1 w21 #[.int .i64 0, .bool s20, .slice A20 l20 c20, .bool s20r, .slice A20r l20r c20r, .int .i64 1, .bool s21, .slice A21 l21 c21, .bool s21r, .slice A21r l21r c21r] 69
 have hs8 : V9.heap.size = w21.heap.size + 1 := by rw [hW]; simp
 rw [← hW]
 clear hW
 obtain ⟨v8, hb8⟩ : ∃ b, b = w21.heap.size := ⟨_, rfl⟩
 rw [← hb8] at x8 hs8 ⊢
 have o0_8 : v0 < v8 := by have := (HX0.out.below Bz).lt; omega
 have o1_8 : v1 < v8 := by have := (HX1.out.below Bz).lt; omega
 have o2_8 : v2 < v8 := by have := (HX2.out.below Bz).lt; omega
 have o3_8 : v3 < v8 := by have := (HX3.out.below Bz).lt; omega
 have o4_8 : v4 < v8 := by have := (HX4.out.below Bz).lt; omega
 have o5_8 : v5 < v8 := by have := (HX5.out.below Bz).lt; omega
 have o6_8 : v6 < v8 := by have := (HX6.out.below Bz).lt; omega
 have o7_8 : v7 < v8 := by have := (HX7.out.below Bz).lt; omega
 have ow_8 : w.heap.size ≤ v8 := by have := hB.size; have := Bz.size; omega
 replace h9 := h9.below hN
 replace h10 := h10.below hN
 replace h19 := h19.below hN
 replace h20 := h20.below hN
 replace h21 := h21.below hN
 replace h12 := h12.below hN
 replace hB := below_trans (below_trans hB Bz) hN
 replace HX0 := Lib.hid ((HX0.out.below Bz).below hN)
 replace HX1 := Lib.hid ((HX1.out.below Bz).below hN)
 replace HX2 := Lib.hid ((HX2.out.below Bz).below hN)
 replace HX3 := Lib.hid ((HX3.out.below Bz).below hN)
 replace HX4 := Lib.hid ((HX4.out.below Bz).below hN)
 replace HX5 := Lib.hid ((HX5.out.below Bz).below hN)
 replace HX6 := Lib.hid ((HX6.out.below Bz).below hN)
 replace HX7 := Lib.hid ((HX7.out.below Bz).below hN)
 have HX8 := Lib.hid x8
 clear x8 hN Bz hb8
 have Bz := Below.refl V9.heap.size V9
 obtain ⟨V10, hW, x9, hN⟩ := boxes1 V9 #[.slice (some ⟨v7, 0, none⟩) 1 1, .slice (some ⟨v8, 0, none⟩) 2 2] 57
 have hs9 : V10.heap.size = V9.heap.size + 1 := by rw [hW]; simp
 rw [← hW]
 clear hW
 rw [hs8] at x9 hs9
 obtain ⟨v9, hb9⟩ : ∃ b, b = v8 + 1 := ⟨_, rfl⟩
 rw [← hb9] at x9 hs9  ⊢
 have o0_9 : v0 < v9 := by have := (HX0.out.below Bz).lt; omega
 have o1_9 : v1 < v9 := by have := (HX1.out.below Bz).lt; omega
 have o2_9 : v2 < v9 := by have := (HX2.out.below Bz).lt; omega
 have o3_9 : v3 < v9 := by have := (HX3.out.below Bz).lt; omega
 have o4_9 : v4 < v9 := by have := (HX4.out.below Bz).lt; omega
 have o5_9 : v5 < v9 := by have := (HX5.out.below Bz).lt; omega
 have o6_9 : v6 < v9 := by have := (HX6.out.below Bz).lt; omega
 have o7_9 : v7 < v9 := by have := (HX7.out.below Bz).lt; omega
 have o8_9 : v8 < v9 := by have := (HX8.out.below Bz).lt; omega
 have ow_9 : w.heap.size ≤ v9 := by have := hB.size; have := Bz.size; omega
 replace h9 := h9.below hN
 replace h10 := h10.below hN
 replace h19 := h19.below hN
 replace h20 := h20.below hN
 replace h21 := h21.below hN
 replace h12 := h12.below hN
 replace hB := below_trans (below_trans hB Bz) hN
 replace HX0 := Lib.hid ((HX0.out.below Bz).below hN)
 replace HX1 := Lib.hid ((HX1.out.below Bz).below hN)
 replace HX2 := Lib.hid ((HX2.out.below Bz).below hN)
 replace HX3 := Lib.hid ((HX3.out.below Bz).below hN)
 replace HX4 := Lib.hid ((HX4.out.below Bz).below hN)
 replace HX5 := Lib.hid ((HX5.out.below Bz).below hN)
 replace HX6 := Lib.hid ((HX6.out.below Bz).below hN)
 replace HX7 := Lib.hid ((HX7.out.below Bz).below hN)
 replace HX8 := Lib.hid ((HX8.out.below Bz).below hN)
 have HX9 := Lib.hid x9
 clear x9 hN Bz hb9
 have Bz := Below.refl V10.heap.size V10
 clear hs8
 with_reducible refine (sameVecs_q (C := (turnT colsP 2)) (D := [[(0, qof (1) 1)], [(0, qof (2) 1), (1, qof (3) 1)]]) (CM.below h9 (by go_grown)) (cm_lit (n := 2) (M := 2) [⟨some ⟨v7, 0, none⟩, 1, 1, [⟨0, ⟨s19, A19, c19, l19, s19r, A19r, c19r, l19r, qof (1) 1, true⟩⟩]⟩, ⟨some ⟨v8, 0, none⟩, 2, 2, [⟨0, ⟨s20, A20, c20, l20, s20r, A20r, c20r, l20r, qof (2) 1, true⟩⟩, ⟨1, ⟨s21, A21, c21, l21, s21r, A21r, c21r, l21r, qof (3) 1, true⟩⟩]⟩] (HX9.out.below (below_trans Bz (by go_grown))) rfl rfl (cns_cons (v := ⟨some ⟨v7, 0, none⟩, 1, 1, [⟨0, ⟨s19, A19, c19, l19, s19r, A19r, c19r, l19r, qof (1) 1, true⟩⟩]⟩) (cn_mk (sl_lit (HX7.out.below (below_trans Bz (by go_grown))) rfl rfl) (OnT.c 0 (RN.below h19 (by go_grown)) (sz_one (by decide) (by decide) (by decide)) (OnT.nil _ _)) (fun h => (by cases h))) (cns_cons (v := ⟨some ⟨v8, 0, none⟩, 2, 2, [⟨0, ⟨s20, A20, c20, l20, s20r, A20r, c20r, l20r, qof (2) 1, true⟩⟩, ⟨1, ⟨s21, A21, c21, l21, s21r, A21r, c21r, l21r, qof (3) 1, true⟩⟩]⟩) (cn_mk (sl_lit (HX8.out.below (below_trans Bz (by go_grown))) rfl rfl) (OnT.c 0 (RN.below h20 (by go_grown)) (sz_one (by decide) (by decide) (by decide)) (OnT.c 1 (RN.below h21 (by go_grown)) (sz_one (by decide) (by decide) (by decide)) (OnT.nil _ _))) (fun h => (by cases h))) (cns_nil _ _))) [[(0, qof (1) 1)], [(0, qof (2) 1), (1, qof (3) 1)]] rfl) (by decide +kernel) (by decide +kernel) (by decide) (by decide) (by decide) (by decide) true (Lib.hid (by decide +kernel))).mono ?_
 rintro e w22 ⟨rfl, b22⟩
 replace b22 := below_trans (a := V10) (by go_grown) b22
 replace h10 := h10.below b22
 replace h12 := h12.below b22
 replace Bz := below_trans Bz b22
 clear b22
 go_wp2_with fail
 obtain ⟨V11, hW, x10, hN⟩ := boxes1 w22 #[.int .i64 1, .int .i64 2, .int .i64 0] 3
 rw [← hW]
 clear hW
 obtain ⟨v10, hb10⟩ : ∃ b, b = w22.heap.size := ⟨_, rfl⟩
 rw [← hb10] at x10 ⊢
 have o0_10 : v0 < v10 := by have := (HX0.out.below Bz).lt; omega
 have o1_10 : v1 < v10 := by have := (HX1.out.below Bz).lt; omega
 have o2_10 : v2 < v10 := by have := (HX2.out.below Bz).lt; omega
 have o3_10 : v3 < v10 := by have := (HX3.out.below Bz).lt; omega
 have o4_10 : v4 < v10 := by have := (HX4.out.below Bz).lt; omega
 have o5_10 : v5 < v10 := by have := (HX5.out.below Bz).lt; omega
 have o6_10 : v6 < v10 := by have := (HX6.out.below Bz).lt; omega
 have o7_10 : v7 < v10 := by have := (HX7.out.below Bz).lt; omega
 have o8_10 : v8 < v10 := by have := (HX8.out.below Bz).lt; omega
 have o9_10 : v9 < v10 := by have := (HX9.out.below Bz).lt; omega
 have ow_10 : w.heap.size ≤ v10 := by have := hB.size; have := Bz.size; omega
 replace h10 := h10.below hN
 replace h12 := h12.below hN
 replace hB := below_trans (below_trans hB Bz) hN
 replace HX0 := Lib.hid ((HX0.out.below Bz).below hN)
 replace HX1 := Lib.hid ((HX1.out.below Bz).below hN)
 replace HX2 := Lib.hid ((HX2.out.below Bz).below hN)
 replace HX3 := Lib.hid ((HX3.out.below Bz).below hN)
 replace HX4 := Lib.hid ((HX4.out.below Bz).below hN)
 replace HX5 := Lib.hid ((HX5.out.below Bz).below hN)
 replace HX6 := Lib.hid ((HX6.out.below Bz).below hN)
 replace HX7 := Lib.hid ((HX7.out.below Bz).below hN)
 replace HX8 := Lib.hid ((HX8.out.below Bz).below hN)
 replace HX9 := Lib.hid ((HX9.out.below Bz).below hN)
 have HX10 := Lib.hid x10
 clear x10 hN Bz hb10
 have Bz := Below.refl V11.heap.size V11
 with_reducible refine (sameInts_q (L := (invL ([2, 0, 1] : List Int))) (M := ([1, 2, 0] : List Int)) (Sl.below h10 (by go_grown)) (sl_litG (L := [1, 2, 0]) (n := 3) ics_len (HX10.out.below (below_trans Bz (by go_grown))) rfl rfl) (by decide) (by decide) true (Lib.hid (by decide +kernel))).mono ?_
 rintro e w23 ⟨rfl, b23⟩
 replace b23 := below_trans (a := V11) (by go_grown) b23
 replace h12 := h12.below b23
 replace Bz := below_trans Bz b23
 clear b23
 go_wp2_with fail
 with_reducible refine (term6_q (2) (5) (Lib.hid (by omega)) (Lib.hid (Tab.below hT.out (below_trans hB (below_trans (b := w23) Bz (by go_grown)))))).mono ?_
 rintro e w24 ⟨s24, A24, c24, l24, s24r, A24r, c24r, l24r, rfl, h24, b24⟩
 replace b24 := below_trans (a := w23) (by go_grown) b24
 replace h12 := h12.below b24
 replace Bz := below_trans Bz b24
 clear b24
 go_wp2_with fail
 obtain ⟨V12, hW, x11, hN⟩ := boxes1 w24 #[.int .i64 2, .bool s24, .slice A24 l24 c24, .bool s24r, .slice A24r l24r c24r] 69
 rw [← hW]
 clear hW
 obtain ⟨v11, hb11⟩ : ∃ b, b = w24.heap.size := ⟨_, rfl⟩
 rw [← hb11] at x11 ⊢
 have o0_11 : v0 < v11 := by have := (HX0.out.below Bz).lt; omega
 have o1_11 : v1 < v11 := by have := (HX1.out.below Bz).lt; omega
 have o2_11 : v2 < v11 := by have := (HX2.out.below Bz).lt; omega
 have o3_11 : v3 < v11 := by have := (HX3.out.below Bz).lt; omega
 have o4_11 : v4 < v11 := by have := (HX4.out.below Bz).lt; omega
 have o5_11 : v5 < v11 := by have := (HX5.out.below Bz).lt; omega
 have o6_11 : v6 < v11 := by have := (HX6.out.below Bz).lt; omega
 have o7_11 : v7 < v11 := by have := (HX7.out.below Bz).lt; omega
 have o8_11 : v8 < v11 := by have := (HX8.out.below Bz).lt; omega
 have o9_11 : v9 < v11 := by have := (HX9.out.below Bz).lt; omega
 have o10_11 : v10 < v11 := by have := (HX10.out.below Bz).lt; omega
 have ow_11 : w.heap.size ≤ v11 := by have := hB.size; have := Bz.size; omega
 replace h24 := h24.below hN
 replace h12 := h12.below hN
 replace hB := below_trans (below_trans hB Bz) hN
 replace HX0 := Lib.hid ((HX0.out.below Bz).below hN)
 replace HX1 := Lib.hid ((HX1.out.below Bz).below hN)
 replace HX2 := Lib.hid ((HX2.out.below Bz).below hN)
 replace HX3 := Lib.hid ((HX3.out.below Bz).below hN)
 replace HX4 := Lib.hid ((HX4.out.below Bz).below hN)
 replace HX5 := Lib.hid ((HX5.out.below Bz).below hN)
 replace HX6 := Lib.hid ((HX6.out.below Bz).below hN)
 replace HX7 := Lib.hid ((HX7.out.below Bz).below hN)
 replace HX8 := Lib.hid ((HX8.out.below Bz).below hN)
 replace HX9 := Lib.hid ((HX9.out.below Bz).below hN)
 replace HX10 := Lib.hid ((HX10.out.below Bz).below hN)
 have HX11 := Lib.hid x11
 clear x11 hN Bz hb11
 have Bz := Below.refl V12.heap.size V12
 with_reducible refine (sameVec_q (P := nrm (movF ([2, 0, 1] : List Int) (nrm [(0, qof (5) 1)]))) (Q := [(2, qof (5) 1)]) (NV.below h12 (by go_grown)) (nv_lit (n := 1) [⟨2, ⟨s24, A24, c24, l24, s24r, A24r, c24r, l24r, qof (5) 1, true⟩⟩] [(2, qof (5) 1)] rfl (HX11.out.below (below_trans Bz (by go_grown))) rfl rfl (OnT.c 2 (RN.below h24 (by go_grown)) (sz_one (by decide) (by decide) (by decide)) (OnT.nil _ _))) (by decide) (by decide) (by omega) (by omega) true (Lib.hid (by decide +kernel))).mono ?_
 rintro e w25 ⟨rfl, b25⟩
 replace b25 := below_trans (a := V12) (by go_grown) b25
 replace Bz := below_trans Bz b25
 clear b25
 go_wp2_with fail
 go_ret
 have hF := below_trans (c := w25) hB Bz
 exact ⟨rfl, below_trans hF (by go_grown)⟩
end Go.Proofs.YtldcfmangolkoaaDoor
namespace Go.Proofs.YtldcfmangolkoaaDoor
open Go.RowKit Tw

theorem cm_first {w : World} {g n c M k : Nat} {P : List (Int × Rat)} {C : List (List (Int × Rat))} (h : CM w (some ⟨g, 0, none⟩) n c (P :: C) M) (hk : P.length = k) : ∃ A uc, ElA w g 0 [.slice A k uc] := by
 obtain ⟨CL, h1, h2, h3⟩ := h
 match CL, h3 with
 | v :: CL, h3 =>
  rw [List.map_cons, List.cons.injEq] at h3
  have h4 : 0 < n := by rw [← h1.1, List.length_cons]; omega
  obtain ⟨b, off, e, hel⟩ := h1.at Vc.cs_len (by omega) h4
  cases e
  have h5 := hel 0 v rfl
  rw [Nat.zero_mul] at h5
  have h6 := (h2 v List.mem_cons_self).nv.len
  rw [h3.1, hk] at h6
  refine ⟨v.A, v.c, ?_⟩
  rw [h6]
  exact h5
theorem nv_first {w : World} {A : Option Addr} {n c M : Nat} {P : List (Int × Rat)} {a : Int} {q : Rat} (h : NV w A n c P M) (hP : P = [(a, q)]) : ∃ b off, A = some ⟨b, off, none⟩ ∧ n = 1 ∧ ∃ x : Tm, ElA w b off x.cs ∧ x.at_ = a := by
 have hl := h.len
 subst hP
 obtain ⟨L, h1, h2, h3, _⟩ := h
 match L, h3 with
 | [x], h3 =>
  obtain ⟨b, off, e, hel⟩ := h1.at Tm.cs_len (by omega) (by rw [← hl]; exact Nat.one_pos)
  have h5 := hel 0 x rfl
  rw [Nat.zero_mul] at h5
  unfold prs at h3
  simp only [List.map_cons, List.map_nil, List.cons.injEq, Prod.mk.injEq, and_true] at h3
  exact ⟨b, off, e, hl.symm, x, h5, h3.1⟩
theorem mright_err {w : World} {A : Option Addr} {n c : Nat} (k : Int) (g1 : k < 0) : Calls Tryd.prog 28 #[.slice A n c, .int .i64 k] w fun e w' => e = .returned (.bool false) ∧ Below w.heap.size w w' :=
 (mright_no k g1).mono fun e w' h => ⟨h.1, by rw [← h.2]; exact Below.refl _ _⟩
set_option maxRecDepth 100000 in
set_option maxHeartbeats 16000000 in
theorem numbers6_q {w : World} (hT : Hid (Tab w)) : Calls Tryd.prog 5 #[] w (Yes w) := by
 have hB := Below.refl w.heap.size w
 have Bz := Below.refl w.heap.size w
 go_enter Tryd.func5, Tryd.ntmps5
 go_wp2_with fail
 with_reducible refine (cols_q (Lib.hid (Tab.below hT.out (below_trans hB (below_trans (b := w) Bz (by go_grown)))))).mono ?_
 rintro e w1 ⟨A1, c1, rfl, h1, b1⟩
 replace b1 := below_trans (a := w) (by go_grown) b1
 replace Bz := below_trans Bz b1
 clear h1
 clear b1
 go_wp2_with fail
 with_reducible refine (turn_err (-1) (by decide)).mono ?_
 rintro e w2 ⟨rfl, b2⟩
 replace b2 := below_trans (a := w1) (by go_grown) b2
 replace Bz := below_trans Bz b2
 clear b2
 go_wp2_with fail
 with_reducible refine (cols_q (Lib.hid (Tab.below hT.out (below_trans hB (below_trans (b := w2) Bz (by go_grown)))))).mono ?_
 rintro e w3 ⟨A3, c3, rfl, h3, b3⟩
 replace b3 := below_trans (a := w2) (by go_grown) b3
 replace Bz := below_trans Bz b3
 clear h3
 clear b3
 go_wp2_with fail
 with_reducible refine (turn_err (65537) (by decide)).mono ?_
 rintro e w4 ⟨rfl, b4⟩
 replace b4 := below_trans (a := w3) (by go_grown) b4
 replace Bz := below_trans Bz b4
 clear b4
 go_wp2_with fail
 with_reducible refine (cols_q (Lib.hid (Tab.below hT.out (below_trans hB (below_trans (b := w4) Bz (by go_grown)))))).mono ?_
 rintro e w5 ⟨A5, c5, rfl, h5, b5⟩
 replace b5 := below_trans (a := w4) (by go_grown) b5
 replace Bz := below_trans Bz b5
 clear b5
 go_wp2_with fail
 with_reducible refine (turnC (m := 1) (CM.cw (CM.below h5 (by go_grown)) colsP_rise) (by decide) (by decide) (by decide) (by decide) 1 rfl (Lib.hid (Tab.below hT.out (below_trans hB (below_trans (b := w5) Bz (by go_grown)))))).mono ?_
 rintro e w6 ⟨g6, rfl, h6, b6⟩
 replace b6 := below_trans (a := w5) (by go_grown) b6
 replace Bz := below_trans Bz b6
 clear b6
 obtain ⟨uA, uc, he6⟩ := cm_first (k := 1) (show CM w6 (some ⟨g6, 0, none⟩) 1 1 ([(0, qof (1) 1)] :: []) 3 from by have h9 : turnT colsP 1 = [[(0, qof (1) 1)]] := (by decide +kernel); rw [← h9]; exact h6) rfl
 go_wp2_with fail
 obtain ⟨V1, hW, x0, hN⟩ := boxes1 w6 #[.int .i64 0, .int .i64 0] 3
 rw [← hW]
 clear hW
 obtain ⟨v0, hb0⟩ : ∃ b, b = w6.heap.size := ⟨_, rfl⟩
 rw [← hb0] at x0 ⊢
 have ow_0 : w.heap.size ≤ v0 := by have := hB.size; have := Bz.size; omega
 replace he6 := he6.below hN
 replace hB := below_trans (below_trans hB Bz) hN
 have HX0 := Lib.hid x0
 clear x0 hN Bz hb0
 have Bz := Below.refl V1.heap.size V1
 with_reducible refine (inverse_err (sl_litG (L := [0, 0]) (n := 2) ics_len (HX0.out.below (below_trans Bz (by go_grown))) rfl rfl) (Lib.hid (i64_all (by decide))) (by decide) (by decide)).mono ?_
 rintro e w7 ⟨A7, n7, c7, rfl, b7⟩
 replace b7 := below_trans (a := V1) (by go_grown) b7
 replace he6 := he6.below b7
 replace Bz := below_trans Bz b7
 clear b7
 go_wp2_with fail
 obtain ⟨V2, hW, x1, hN⟩ := boxes1 w7 #[.int .i64 0, .int .i64 1] 3
 rw [← hW]
 clear hW
 obtain ⟨v1, hb1⟩ : ∃ b, b = w7.heap.size := ⟨_, rfl⟩
 rw [← hb1] at x1 ⊢
 have o0_1 : v0 < v1 := by have := (HX0.out.below Bz).lt; omega
 have ow_1 : w.heap.size ≤ v1 := by have := hB.size; have := Bz.size; omega
 replace he6 := he6.below hN
 replace hB := below_trans (below_trans hB Bz) hN
 replace HX0 := Lib.hid ((HX0.out.below Bz).below hN)
 have HX1 := Lib.hid x1
 clear x1 hN Bz hb1
 have Bz := Below.refl V2.heap.size V2
 with_reducible refine (term6_q (2) (1) (Lib.hid (by omega)) (Lib.hid (Tab.below hT.out (below_trans hB (below_trans (b := V2) Bz (by go_grown)))))).mono ?_
 rintro e w8 ⟨s8, A8, c8, l8, s8r, A8r, c8r, l8r, rfl, h8, b8⟩
 replace b8 := below_trans (a := V2) (by go_grown) b8
 replace he6 := he6.below b8
 replace Bz := below_trans Bz b8
 clear b8
 go_wp2_with fail
 obtain ⟨V3, hW, x2, hN⟩ := boxes1 w8 #[.int .i64 2, .bool s8, .slice A8 l8 c8, .bool s8r, .slice A8r l8r c8r] 69
 rw [← hW]
 clear hW
 obtain ⟨v2, hb2⟩ : ∃ b, b = w8.heap.size := ⟨_, rfl⟩
 rw [← hb2] at x2 ⊢
 have o0_2 : v0 < v2 := by have := (HX0.out.below Bz).lt; omega
 have o1_2 : v1 < v2 := by have := (HX1.out.below Bz).lt; omega
 have ow_2 : w.heap.size ≤ v2 := by have := hB.size; have := Bz.size; omega
 replace he6 := he6.below hN
 replace h8 := h8.below hN
 replace hB := below_trans (below_trans hB Bz) hN
 replace HX0 := Lib.hid ((HX0.out.below Bz).below hN)
 replace HX1 := Lib.hid ((HX1.out.below Bz).below hN)
 have HX2 := Lib.hid x2
 clear x2 hN Bz hb2
 have Bz := Below.refl V3.heap.size V3
 with_reducible refine (move_err (sl_litG (L := [0, 1]) (n := 2) ics_len (HX1.out.below (below_trans Bz (by go_grown))) rfl rfl) (Lib.hid (i64_all (by decide))) (by decide) (by decide) (gv_lit (n := 1) [⟨2, ⟨s8, A8, c8, l8, s8r, A8r, c8r, l8r, qof (1) 1, true⟩⟩] [(2, qof (1) 1)] rfl (HX2.out.below (below_trans Bz (by go_grown))) rfl rfl (OnT.c 2 (RN.below h8 (by go_grown)) (sz_one (by decide) (by decide) (by decide)) (OnT.nil _ _))) (by decide +kernel) (by decide) (by decide) (Lib.hid (Tab.below hT.out (below_trans hB (below_trans (b := V3) Bz (by go_grown)))))).mono ?_
 rintro e w9 ⟨rfl, b9⟩
 replace b9 := below_trans (a := V3) (by go_grown) b9
 replace he6 := he6.below b9
 replace Bz := below_trans Bz b9
 clear b9
 go_wp2_with fail
 obtain ⟨V4, hW, x3, hN⟩ := boxes1 w9 #[.int .i64 0, .int .i64 1] 3
 rw [← hW]
 clear hW
 obtain ⟨v3, hb3⟩ : ∃ b, b = w9.heap.size := ⟨_, rfl⟩
 rw [← hb3] at x3 ⊢
 have o0_3 : v0 < v3 := by have := (HX0.out.below Bz).lt; omega
 have o1_3 : v1 < v3 := by have := (HX1.out.below Bz).lt; omega
 have o2_3 : v2 < v3 := by have := (HX2.out.below Bz).lt; omega
 have ow_3 : w.heap.size ≤ v3 := by have := hB.size; have := Bz.size; omega
 replace he6 := he6.below hN
 replace hB := below_trans (below_trans hB Bz) hN
 replace HX0 := Lib.hid ((HX0.out.below Bz).below hN)
 replace HX1 := Lib.hid ((HX1.out.below Bz).below hN)
 replace HX2 := Lib.hid ((HX2.out.below Bz).below hN)
 have HX3 := Lib.hid x3
 clear x3 hN Bz hb3
 have Bz := Below.refl V4.heap.size V4
 with_reducible refine (term6_q (-1) (1) (Lib.hid (by omega)) (Lib.hid (Tab.below hT.out (below_trans hB (below_trans (b := V4) Bz (by go_grown)))))).mono ?_
 rintro e w10 ⟨s10, A10, c10, l10, s10r, A10r, c10r, l10r, rfl, h10, b10⟩
 replace b10 := below_trans (a := V4) (by go_grown) b10
 replace he6 := he6.below b10
 replace Bz := below_trans Bz b10
 clear b10
 go_wp2_with fail
 obtain ⟨V5, hW, x4, hN⟩ := boxes1 w10 #[.int .i64 (-1), .bool s10, .slice A10 l10 c10, .bool s10r, .slice A10r l10r c10r] 69
 rw [← hW]
 clear hW
 obtain ⟨v4, hb4⟩ : ∃ b, b = w10.heap.size := ⟨_, rfl⟩
 rw [← hb4] at x4 ⊢
 have o0_4 : v0 < v4 := by have := (HX0.out.below Bz).lt; omega
 have o1_4 : v1 < v4 := by have := (HX1.out.below Bz).lt; omega
 have o2_4 : v2 < v4 := by have := (HX2.out.below Bz).lt; omega
 have o3_4 : v3 < v4 := by have := (HX3.out.below Bz).lt; omega
 have ow_4 : w.heap.size ≤ v4 := by have := hB.size; have := Bz.size; omega
 replace he6 := he6.below hN
 replace h10 := h10.below hN
 replace hB := below_trans (below_trans hB Bz) hN
 replace HX0 := Lib.hid ((HX0.out.below Bz).below hN)
 replace HX1 := Lib.hid ((HX1.out.below Bz).below hN)
 replace HX2 := Lib.hid ((HX2.out.below Bz).below hN)
 replace HX3 := Lib.hid ((HX3.out.below Bz).below hN)
 have HX4 := Lib.hid x4
 clear x4 hN Bz hb4
 have Bz := Below.refl V5.heap.size V5
 with_reducible refine (move_err (sl_litG (L := [0, 1]) (n := 2) ics_len (HX3.out.below (below_trans Bz (by go_grown))) rfl rfl) (Lib.hid (i64_all (by decide))) (by decide) (by decide) (gv_lit (n := 1) [⟨(-1), ⟨s10, A10, c10, l10, s10r, A10r, c10r, l10r, qof (1) 1, true⟩⟩] [((-1), qof (1) 1)] rfl (HX4.out.below (below_trans Bz (by go_grown))) rfl rfl (OnT.c (-1) (RN.below h10 (by go_grown)) (sz_one (by decide) (by decide) (by decide)) (OnT.nil _ _))) (by decide +kernel) (by decide) (by decide) (Lib.hid (Tab.below hT.out (below_trans hB (below_trans (b := V5) Bz (by go_grown)))))).mono ?_
 rintro e w11 ⟨rfl, b11⟩
 replace b11 := below_trans (a := V5) (by go_grown) b11
 replace he6 := he6.below b11
 replace Bz := below_trans Bz b11
 clear b11
 go_wp2_with fail
 obtain ⟨V6, hW, x5, hN⟩ := boxes1 w11 #[.int .i64 1, .int .i64 0] 3
 rw [← hW]
 clear hW
 obtain ⟨v5, hb5⟩ : ∃ b, b = w11.heap.size := ⟨_, rfl⟩
 rw [← hb5] at x5 ⊢
 have o0_5 : v0 < v5 := by have := (HX0.out.below Bz).lt; omega
 have o1_5 : v1 < v5 := by have := (HX1.out.below Bz).lt; omega
 have o2_5 : v2 < v5 := by have := (HX2.out.below Bz).lt; omega
 have o3_5 : v3 < v5 := by have := (HX3.out.below Bz).lt; omega
 have o4_5 : v4 < v5 := by have := (HX4.out.below Bz).lt; omega
 have ow_5 : w.heap.size ≤ v5 := by have := hB.size; have := Bz.size; omega
 replace he6 := he6.below hN
 replace hB := below_trans (below_trans hB Bz) hN
 replace HX0 := Lib.hid ((HX0.out.below Bz).below hN)
 replace HX1 := Lib.hid ((HX1.out.below Bz).below hN)
 replace HX2 := Lib.hid ((HX2.out.below Bz).below hN)
 replace HX3 := Lib.hid ((HX3.out.below Bz).below hN)
 replace HX4 := Lib.hid ((HX4.out.below Bz).below hN)
 have HX5 := Lib.hid x5
 clear x5 hN Bz hb5
 have Bz := Below.refl V6.heap.size V6
 with_reducible refine (term6_q (9) (1) (Lib.hid (by omega)) (Lib.hid (Tab.below hT.out (below_trans hB (below_trans (b := V6) Bz (by go_grown)))))).mono ?_
 rintro e w12 ⟨s12, A12, c12, l12, s12r, A12r, c12r, l12r, rfl, h12, b12⟩
 replace b12 := below_trans (a := V6) (by go_grown) b12
 replace he6 := he6.below b12
 replace Bz := below_trans Bz b12
 clear b12
 go_wp2_with fail
 with_reducible refine (term6_q (9) (-1) (Lib.hid (by omega)) (Lib.hid (Tab.below hT.out (below_trans hB (below_trans (b := w12) Bz (by go_grown)))))).mono ?_
 rintro e w13 ⟨s13, A13, c13, l13, s13r, A13r, c13r, l13r, rfl, h13, b13⟩
 replace b13 := below_trans (a := w12) (by go_grown) b13
 replace he6 := he6.below b13
 replace h12 := h12.below b13
 replace Bz := below_trans Bz b13
 clear b13
 go_wp2_with fail
 with_reducible refine (term6_q (0) (4) (Lib.hid (by omega)) (Lib.hid (Tab.below hT.out (below_trans hB (below_trans (b := w13) Bz (by go_grown)))))).mono ?_
 rintro e w14 ⟨s14, A14, c14, l14, s14r, A14r, c14r, l14r, rfl, h14, b14⟩
 replace b14 := below_trans (a := w13) (by go_grown) b14
 replace he6 := he6.below b14
 replace h12 := h12.below b14
 replace h13 := h13.below b14
 replace Bz := below_trans Bz b14
 clear b14
 go_wp2_with fail
 obtain ⟨V7, hW, x6, hN⟩ := boxes1 w14 #[.int .i64 9, .bool s12, .slice A12 l12 c12, .bool s12r, .slice A12r l12r c12r, .int .i64 9, .bool s13, .slice A13 l13 c13, .bool s13r, .slice A13r l13r c13r, .int .i64 0, .bool s14, .slice A14 l14 c14, .bool s14r, .slice A14r l14r c14r] 69
 rw [← hW]
 clear hW
 obtain ⟨v6, hb6⟩ : ∃ b, b = w14.heap.size := ⟨_, rfl⟩
 rw [← hb6] at x6 ⊢
 have o0_6 : v0 < v6 := by have := (HX0.out.below Bz).lt; omega
 have o1_6 : v1 < v6 := by have := (HX1.out.below Bz).lt; omega
 have o2_6 : v2 < v6 := by have := (HX2.out.below Bz).lt; omega
 have o3_6 : v3 < v6 := by have := (HX3.out.below Bz).lt; omega
 have o4_6 : v4 < v6 := by have := (HX4.out.below Bz).lt; omega
 have o5_6 : v5 < v6 := by have := (HX5.out.below Bz).lt; omega
 have ow_6 : w.heap.size ≤ v6 := by have := hB.size; have := Bz.size; omega
 replace he6 := he6.below hN
 replace h12 := h12.below hN
 replace h13 := h13.below hN
 replace h14 := h14.below hN
 replace hB := below_trans (below_trans hB Bz) hN
 replace HX0 := Lib.hid ((HX0.out.below Bz).below hN)
 replace HX1 := Lib.hid ((HX1.out.below Bz).below hN)
 replace HX2 := Lib.hid ((HX2.out.below Bz).below hN)
 replace HX3 := Lib.hid ((HX3.out.below Bz).below hN)
 replace HX4 := Lib.hid ((HX4.out.below Bz).below hN)
 replace HX5 := Lib.hid ((HX5.out.below Bz).below hN)
 have HX6 := Lib.hid x6
 clear x6 hN Bz hb6
 have Bz := Below.refl V7.heap.size V7
 with_reducible refine (moveW (N := 3) (sl_litG (L := [1, 0]) (n := 2) ics_len (HX5.out.below (below_trans Bz (by go_grown))) rfl rfl) (Lib.hid (i64_all (by decide))) (by decide) (by decide) (gv_lit (n := 3) [⟨9, ⟨s12, A12, c12, l12, s12r, A12r, c12r, l12r, qof (1) 1, true⟩⟩, ⟨9, ⟨s13, A13, c13, l13, s13r, A13r, c13r, l13r, qof (-1) 1, true⟩⟩, ⟨0, ⟨s14, A14, c14, l14, s14r, A14r, c14r, l14r, qof (4) 1, true⟩⟩] [(9, qof (1) 1), (9, qof (-1) 1), (0, qof (4) 1)] rfl (HX6.out.below (below_trans Bz (by go_grown))) rfl rfl (OnT.c 9 (RN.below h12 (by go_grown)) (sz_one (by decide) (by decide) (by decide)) (OnT.c 9 (RN.below h13 (by go_grown)) (sz_one (by decide) (by decide) (by decide)) (OnT.c 0 (RN.below h14 (by go_grown)) (sz_one (by decide) (by decide) (by decide)) (OnT.nil _ _))))) (by decide +kernel) (by decide) (by decide) (Lib.hid (Tab.below hT.out (below_trans hB (below_trans (b := V7) Bz (by go_grown)))))).mono ?_
 rintro e w15 ⟨A15, n15, c15, rfl, h15, l15, b15⟩
 replace b15 := below_trans (a := V7) (by go_grown) b15
 replace he6 := he6.below b15
 replace Bz := below_trans Bz b15
 clear b15
 obtain ⟨bm, om, rfl, rfl, xm, he15, hx15⟩ := nv_first h15 (by decide +kernel : (nrm (movF ([1, 0] : List Int) (nrm [(9, qof (1) 1), (9, qof (-1) 1), (0, qof (4) 1)]))) = [(1, qof (4) 1)])
 have HXM := Lib.hid hx15
 clear hx15
 have p60_0 := he6.c0 (u := .slice uA 1 uc) rfl
 have p61_0 := he15.c0 (u := .int .i64 xm.at_) rfl
 go_wp2_with fail
 with_reducible refine (perm_q (L := ([] : List Int)) (Sl.nil _) (Lib.hid (i64_all (by decide))) (by decide) true (Lib.hid (by decide))).mono ?_
 rintro e w16 ⟨rfl, b16⟩
 replace b16 := below_trans (a := w15) (by go_grown) b16
 replace Bz := below_trans Bz b16
 clear b16
 clear p60_0 p61_0
 go_wp2_with fail
 obtain ⟨V8, hW, x7, hN⟩ := boxes1 w16 #[.int .i64 0] 3
 rw [← hW]
 clear hW
 obtain ⟨v7, hb7⟩ : ∃ b, b = w16.heap.size := ⟨_, rfl⟩
 rw [← hb7] at x7 ⊢
 have o0_7 : v0 < v7 := by have := (HX0.out.below Bz).lt; omega
 have o1_7 : v1 < v7 := by have := (HX1.out.below Bz).lt; omega
 have o2_7 : v2 < v7 := by have := (HX2.out.below Bz).lt; omega
 have o3_7 : v3 < v7 := by have := (HX3.out.below Bz).lt; omega
 have o4_7 : v4 < v7 := by have := (HX4.out.below Bz).lt; omega
 have o5_7 : v5 < v7 := by have := (HX5.out.below Bz).lt; omega
 have o6_7 : v6 < v7 := by have := (HX6.out.below Bz).lt; omega
 have ow_7 : w.heap.size ≤ v7 := by have := hB.size; have := Bz.size; omega
 replace hB := below_trans (below_trans hB Bz) hN
 replace HX0 := Lib.hid ((HX0.out.below Bz).below hN)
 replace HX1 := Lib.hid ((HX1.out.below Bz).below hN)
 replace HX2 := Lib.hid ((HX2.out.below Bz).below hN)
 replace HX3 := Lib.hid ((HX3.out.below Bz).below hN)
 replace HX4 := Lib.hid ((HX4.out.below Bz).below hN)
 replace HX5 := Lib.hid ((HX5.out.below Bz).below hN)
 replace HX6 := Lib.hid ((HX6.out.below Bz).below hN)
 have HX7 := Lib.hid x7
 clear x7 hN Bz hb7
 have Bz := Below.refl V8.heap.size V8
 with_reducible refine (perm_q (L := ([0] : List Int)) (sl_litG (L := [0]) (n := 1) ics_len (HX7.out.below (below_trans Bz (by go_grown))) rfl rfl) (Lib.hid (i64_all (by decide))) (by decide) true (Lib.hid (by decide))).mono ?_
 rintro e w17 ⟨rfl, b17⟩
 replace b17 := below_trans (a := V8) (by go_grown) b17
 replace Bz := below_trans Bz b17
 clear b17
 go_wp2_with fail
 obtain ⟨V9, hW, x8, hN⟩ := boxes1 w17 #[.int .i64 1] 3
 rw [← hW]
 clear hW
 obtain ⟨v8, hb8⟩ : ∃ b, b = w17.heap.size := ⟨_, rfl⟩
 rw [← hb8] at x8 ⊢
 have o0_8 : v0 < v8 := by have := (HX0.out.below Bz).lt; omega
 have o1_8 : v1 < v8 := by have := (HX1.out.below Bz).lt; omega
 have o2_8 : v2 < v8 := by have := (HX2.out.below Bz).lt; omega
 have o3_8 : v3 < v8 := by have := (HX3.out.below Bz).lt; omega
 have o4_8 : v4 < v8 := by have := (HX4.out.below Bz).lt; omega
 have o5_8 : v5 < v8 := by have := (HX5.out.below Bz).lt; omega
 have o6_8 : v6 < v8 := by have := (HX6.out.below Bz).lt; omega
 have o7_8 : v7 < v8 := by have := (HX7.out.below Bz).lt; omega
 have ow_8 : w.heap.size ≤ v8 := by have := hB.size; have := Bz.size; omega
 replace hB := below_trans (below_trans hB Bz) hN
 replace HX0 := Lib.hid ((HX0.out.below Bz).below hN)
 replace HX1 := Lib.hid ((HX1.out.below Bz).below hN)
 replace HX2 := Lib.hid ((HX2.out.below Bz).below hN)
 replace HX3 := Lib.hid ((HX3.out.below Bz).below hN)
 replace HX4 := Lib.hid ((HX4.out.below Bz).below hN)
 replace HX5 := Lib.hid ((HX5.out.below Bz).below hN)
 replace HX6 := Lib.hid ((HX6.out.below Bz).below hN)
 replace HX7 := Lib.hid ((HX7.out.below Bz).below hN)
 have HX8 := Lib.hid x8
 clear x8 hN Bz hb8
 have Bz := Below.refl V9.heap.size V9
 with_reducible refine (perm_q (L := ([1] : List Int)) (sl_litG (L := [1]) (n := 1) ics_len (HX8.out.below (below_trans Bz (by go_grown))) rfl rfl) (Lib.hid (i64_all (by decide))) (by decide) false (Lib.hid (by decide))).mono ?_
 rintro e w18 ⟨rfl, b18⟩
 replace b18 := below_trans (a := V9) (by go_grown) b18
 replace Bz := below_trans Bz b18
 clear b18
 go_wp2_with fail
 obtain ⟨V10, hW, x9, hN⟩ := boxes1 w18 #[.int .i64 (-1), .int .i64 0] 3
 rw [← hW]
 clear hW
 obtain ⟨v9, hb9⟩ : ∃ b, b = w18.heap.size := ⟨_, rfl⟩
 rw [← hb9] at x9 ⊢
 have o0_9 : v0 < v9 := by have := (HX0.out.below Bz).lt; omega
 have o1_9 : v1 < v9 := by have := (HX1.out.below Bz).lt; omega
 have o2_9 : v2 < v9 := by have := (HX2.out.below Bz).lt; omega
 have o3_9 : v3 < v9 := by have := (HX3.out.below Bz).lt; omega
 have o4_9 : v4 < v9 := by have := (HX4.out.below Bz).lt; omega
 have o5_9 : v5 < v9 := by have := (HX5.out.below Bz).lt; omega
 have o6_9 : v6 < v9 := by have := (HX6.out.below Bz).lt; omega
 have o7_9 : v7 < v9 := by have := (HX7.out.below Bz).lt; omega
 have o8_9 : v8 < v9 := by have := (HX8.out.below Bz).lt; omega
 have ow_9 : w.heap.size ≤ v9 := by have := hB.size; have := Bz.size; omega
 replace hB := below_trans (below_trans hB Bz) hN
 replace HX0 := Lib.hid ((HX0.out.below Bz).below hN)
 replace HX1 := Lib.hid ((HX1.out.below Bz).below hN)
 replace HX2 := Lib.hid ((HX2.out.below Bz).below hN)
 replace HX3 := Lib.hid ((HX3.out.below Bz).below hN)
 replace HX4 := Lib.hid ((HX4.out.below Bz).below hN)
 replace HX5 := Lib.hid ((HX5.out.below Bz).below hN)
 replace HX6 := Lib.hid ((HX6.out.below Bz).below hN)
 replace HX7 := Lib.hid ((HX7.out.below Bz).below hN)
 replace HX8 := Lib.hid ((HX8.out.below Bz).below hN)
 have HX9 := Lib.hid x9
 clear x9 hN Bz hb9
 have Bz := Below.refl V10.heap.size V10
 with_reducible refine (perm_q (L := ([(-1), 0] : List Int)) (sl_litG (L := [(-1), 0]) (n := 2) ics_len (HX9.out.below (below_trans Bz (by go_grown))) rfl rfl) (Lib.hid (i64_all (by decide))) (by decide) false (Lib.hid (by decide))).mono ?_
 rintro e w19 ⟨rfl, b19⟩
 replace b19 := below_trans (a := V10) (by go_grown) b19
 replace Bz := below_trans Bz b19
 clear b19
 go_wp2_with fail
 obtain ⟨V11, hW, x10, hN⟩ := boxes1 w19 #[.int .i64 0, .int .i64 0] 3
 rw [← hW]
 clear hW
 obtain ⟨v10, hb10⟩ : ∃ b, b = w19.heap.size := ⟨_, rfl⟩
 rw [← hb10] at x10 ⊢
 have o0_10 : v0 < v10 := by have := (HX0.out.below Bz).lt; omega
 have o1_10 : v1 < v10 := by have := (HX1.out.below Bz).lt; omega
 have o2_10 : v2 < v10 := by have := (HX2.out.below Bz).lt; omega
 have o3_10 : v3 < v10 := by have := (HX3.out.below Bz).lt; omega
 have o4_10 : v4 < v10 := by have := (HX4.out.below Bz).lt; omega
 have o5_10 : v5 < v10 := by have := (HX5.out.below Bz).lt; omega
 have o6_10 : v6 < v10 := by have := (HX6.out.below Bz).lt; omega
 have o7_10 : v7 < v10 := by have := (HX7.out.below Bz).lt; omega
 have o8_10 : v8 < v10 := by have := (HX8.out.below Bz).lt; omega
 have o9_10 : v9 < v10 := by have := (HX9.out.below Bz).lt; omega
 have ow_10 : w.heap.size ≤ v10 := by have := hB.size; have := Bz.size; omega
 replace hB := below_trans (below_trans hB Bz) hN
 replace HX0 := Lib.hid ((HX0.out.below Bz).below hN)
 replace HX1 := Lib.hid ((HX1.out.below Bz).below hN)
 replace HX2 := Lib.hid ((HX2.out.below Bz).below hN)
 replace HX3 := Lib.hid ((HX3.out.below Bz).below hN)
 replace HX4 := Lib.hid ((HX4.out.below Bz).below hN)
 replace HX5 := Lib.hid ((HX5.out.below Bz).below hN)
 replace HX6 := Lib.hid ((HX6.out.below Bz).below hN)
 replace HX7 := Lib.hid ((HX7.out.below Bz).below hN)
 replace HX8 := Lib.hid ((HX8.out.below Bz).below hN)
 replace HX9 := Lib.hid ((HX9.out.below Bz).below hN)
 have HX10 := Lib.hid x10
 clear x10 hN Bz hb10
 have Bz := Below.refl V11.heap.size V11
 with_reducible refine (perm_q (L := ([0, 0] : List Int)) (sl_litG (L := [0, 0]) (n := 2) ics_len (HX10.out.below (below_trans Bz (by go_grown))) rfl rfl) (Lib.hid (i64_all (by decide))) (by decide) false (Lib.hid (by decide))).mono ?_
 rintro e w20 ⟨rfl, b20⟩
 replace b20 := below_trans (a := V11) (by go_grown) b20
 replace Bz := below_trans Bz b20
 clear b20
 go_wp2_with fail
 with_reducible refine (cols_q (Lib.hid (Tab.below hT.out (below_trans hB (below_trans (b := w20) Bz (by go_grown)))))).mono ?_
 rintro e w21 ⟨A21, c21, rfl, h21, b21⟩
 replace b21 := below_trans (a := w20) (by go_grown) b21
 replace Bz := below_trans Bz b21
 clear b21
 go_wp2_with fail
 with_reducible refine (mrightC (C := colsP) (CM.below h21 (by go_grown)) (by decide) (by decide) (by decide) (by decide) true (Lib.hid (by decide +kernel)) (Lib.hid (Tab.below hT.out (below_trans hB (below_trans (b := w21) Bz (by go_grown)))))).mono ?_
 rintro e w22 ⟨rfl, b22⟩
 replace b22 := below_trans (a := w21) (by go_grown) b22
 replace Bz := below_trans Bz b22
 clear b22
 go_wp2_with fail
 with_reducible refine (cols_q (Lib.hid (Tab.below hT.out (below_trans hB (below_trans (b := w22) Bz (by go_grown)))))).mono ?_
 rintro e w23 ⟨A23, c23, rfl, h23, b23⟩
 replace b23 := below_trans (a := w22) (by go_grown) b23
 replace Bz := below_trans Bz b23
 clear b23
 go_wp2_with fail
 with_reducible refine (mrightC (C := colsP) (CM.below h23 (by go_grown)) (by decide) (by decide) (by decide) (by decide) false (Lib.hid (by decide +kernel)) (Lib.hid (Tab.below hT.out (below_trans hB (below_trans (b := w23) Bz (by go_grown)))))).mono ?_
 rintro e w24 ⟨rfl, b24⟩
 replace b24 := below_trans (a := w23) (by go_grown) b24
 replace Bz := below_trans Bz b24
 clear b24
 go_wp2_with fail
 with_reducible refine (mright_err (-1) (by decide)).mono ?_
 rintro e w25 ⟨rfl, b25⟩
 replace b25 := below_trans (a := w24) (by go_grown) b25
 replace Bz := below_trans Bz b25
 clear b25
 go_wp2_with fail
 with_reducible refine (mrightC (C := []) (cm_nil _ 2) (by decide) (by decide) (by decide) (by decide) true (Lib.hid (by decide +kernel)) (Lib.hid (Tab.below hT.out (below_trans hB (below_trans (b := w25) Bz (by go_grown)))))).mono ?_
 rintro e w26 ⟨rfl, b26⟩
 replace b26 := below_trans (a := w25) (by go_grown) b26
 replace Bz := below_trans Bz b26
 clear b26
 go_wp2_with fail
 with_reducible refine (cols_q (Lib.hid (Tab.below hT.out (below_trans hB (below_trans (b := w26) Bz (by go_grown)))))).mono ?_
 rintro e w27 ⟨A27, c27, rfl, h27, b27⟩
 replace b27 := below_trans (a := w26) (by go_grown) b27
 replace Bz := below_trans Bz b27
 clear b27
 go_wp2_with fail
 with_reducible refine (term6_q (2) (1) (Lib.hid (by omega)) (Lib.hid (Tab.below hT.out (below_trans hB (below_trans (b := w27) Bz (by go_grown)))))).mono ?_
 rintro e w28 ⟨s28, A28, c28, l28, s28r, A28r, c28r, l28r, rfl, h28, b28⟩
 replace b28 := below_trans (a := w27) (by go_grown) b28
 replace h27 := h27.below b28
 replace Bz := below_trans Bz b28
 clear b28
 go_wp2_with fail
 with_reducible refine (term6_q (-1) (1) (Lib.hid (by omega)) (Lib.hid (Tab.below hT.out (below_trans hB (below_trans (b := w28) Bz (by go_grown)))))).mono ?_
 rintro e w29 ⟨s29, A29, c29, l29, s29r, A29r, c29r, l29r, rfl, h29, b29⟩
 replace b29 := below_trans (a := w28) (by go_grown) b29
 replace h27 := h27.below b29
 replace h28 := h28.below b29
 replace Bz := below_trans Bz b29
 clear b29
 go_wp2_with fail
 obtain ⟨V12, hW, x11, hN⟩ := boxes1 w29 #[.int .i64 2, .bool s28, .slice A28 l28 c28, .bool s28r, .slice A28r l28r c28r, .int .i64 (-1), .bool s29, .slice A29 l29 c29, .bool s29r, .slice A29r l29r c29r] 69
 rw [← hW]
 clear hW
 obtain ⟨v11, hb11⟩ : ∃ b, b = w29.heap.size := ⟨_, rfl⟩
 rw [← hb11] at x11 ⊢
 have o0_11 : v0 < v11 := by have := (HX0.out.below Bz).lt; omega
 have o1_11 : v1 < v11 := by have := (HX1.out.below Bz).lt; omega
 have o2_11 : v2 < v11 := by have := (HX2.out.below Bz).lt; omega
 have o3_11 : v3 < v11 := by have := (HX3.out.below Bz).lt; omega
 have o4_11 : v4 < v11 := by have := (HX4.out.below Bz).lt; omega
 have o5_11 : v5 < v11 := by have := (HX5.out.below Bz).lt; omega
 have o6_11 : v6 < v11 := by have := (HX6.out.below Bz).lt; omega
 have o7_11 : v7 < v11 := by have := (HX7.out.below Bz).lt; omega
 have o8_11 : v8 < v11 := by have := (HX8.out.below Bz).lt; omega
 have o9_11 : v9 < v11 := by have := (HX9.out.below Bz).lt; omega
 have o10_11 : v10 < v11 := by have := (HX10.out.below Bz).lt; omega
 have ow_11 : w.heap.size ≤ v11 := by have := hB.size; have := Bz.size; omega
 replace h27 := h27.below hN
 replace h28 := h28.below hN
 replace h29 := h29.below hN
 replace hB := below_trans (below_trans hB Bz) hN
 replace HX0 := Lib.hid ((HX0.out.below Bz).below hN)
 replace HX1 := Lib.hid ((HX1.out.below Bz).below hN)
 replace HX2 := Lib.hid ((HX2.out.below Bz).below hN)
 replace HX3 := Lib.hid ((HX3.out.below Bz).below hN)
 replace HX4 := Lib.hid ((HX4.out.below Bz).below hN)
 replace HX5 := Lib.hid ((HX5.out.below Bz).below hN)
 replace HX6 := Lib.hid ((HX6.out.below Bz).below hN)
 replace HX7 := Lib.hid ((HX7.out.below Bz).below hN)
 replace HX8 := Lib.hid ((HX8.out.below Bz).below hN)
 replace HX9 := Lib.hid ((HX9.out.below Bz).below hN)
 replace HX10 := Lib.hid ((HX10.out.below Bz).below hN)
 have HX11 := Lib.hid x11
 clear x11 hN Bz hb11
 have Bz := Below.refl V12.heap.size V12
 with_reducible refine (timesW 6 3 2 4 2 4 16 4 (CM.cw (CM.below h27 (by go_grown)) colsP_rise) (gv_lit (n := 2) [⟨2, ⟨s28, A28, c28, l28, s28r, A28r, c28r, l28r, qof (1) 1, true⟩⟩, ⟨(-1), ⟨s29, A29, c29, l29, s29r, A29r, c29r, l29r, qof (1) 1, true⟩⟩] [(2, qof (1) 1), ((-1), qof (1) 1)] rfl (HX11.out.below (below_trans Bz (by go_grown))) rfl rfl (OnT.c 2 (RN.below h28 (by go_grown)) (sz_one (by decide) (by decide) (by decide)) (OnT.c (-1) (RN.below h29 (by go_grown)) (sz_one (by decide) (by decide) (by decide)) (OnT.nil _ _)))) (CM.dg (CM.below h27 (by go_grown)) (by decide)) (by decide) (wtot_lit (n := 4) [⟨2, ⟨s28, A28, c28, l28, s28r, A28r, c28r, l28r, qof (1) 1, true⟩⟩, ⟨(-1), ⟨s29, A29, c29, l29, s29r, A29r, c29r, l29r, qof (1) 1, true⟩⟩] [(2, qof (1) 1), ((-1), qof (1) 1)] rfl (OnT.c 2 (RN.below h28 (by go_grown)) (sz_one (by decide) (by decide) (by decide)) (OnT.c (-1) (RN.below h29 (by go_grown)) (sz_one (by decide) (by decide) (by decide)) (OnT.nil _ _))) rfl) (by decide) (by decide) (by decide) (by decide) (by decide) (by decide) (by decide) (by decide) (Lib.hid (Tab.below hT.out (below_trans hB (below_trans (b := V12) Bz (by go_grown)))))).mono ?_
 rintro e w30 ⟨A30, n30, c30, rfl, h30, l30, b30⟩
 replace b30 := below_trans (a := V12) (by go_grown) b30
 replace Bz := below_trans Bz b30
 clear b30
 obtain rfl : n30 = 0 := by have h9 := h30.len; rw [show (nrm (timesP colsP (nrm [(2, qof (1) 1), ((-1), qof (1) 1)]))) = [] by decide +kernel] at h9; exact h9.symm
 go_wp2_with fail
 with_reducible refine (awake6_q (Lib.hid (Tab.below hT.out (below_trans hB (below_trans (b := w30) Bz (by go_grown)))))).mono ?_
 rintro e w31 ⟨rfl, b31⟩
 replace b31 := below_trans (a := w30) (by go_grown) b31
 replace Bz := below_trans Bz b31
 clear b31
 go_wp2_with fail
 go_ret
 have hF := below_trans (c := w31) hB Bz
 exact ⟨rfl, below_trans hF (by go_grown)⟩
theorem numbers6_any {w : World} (hT : Tab w) : Calls Tryd.prog 5 #[] w (Yes w) := numbers6_q (Lib.hid hT)
namespace matrixNumbers
open Go.ChangeShapes Go.WideShapes Go.ChangeAt Go.RowKit Tw

set_option maxRecDepth 100000 in
theorem contract (H : Type) (enc : TypeId × Value → H) (W : World) (base : Nat) (args : Array Value) (ds gs : List (DataW H)) (before : List MemPlace)
  (hval : ∀ (j : Nat) t v, Tryd.f5.params[j]? = some t → args[j]? = some v → Value.okWide Tryd.prog W .any base t v)
  (hW : DataW.Whole enc Tryd.prog Tryd.f5.params.toList Rows.matrixNumbersSpec.vars false W args.toList ds gs before) (hL : laidMetH Tryd.prog Rows.matrixNumbersRow.laid W) :
  Calls Tryd.prog 5 args W fun e W' => ∃ v, e = .returned v ∧ Rows.matrixNumbersSpec.post enc Tryd.prog Tryd.f5 false true false false W args v W' := by
 have hW' := hW
 obtain ⟨p, q, hA0, hV, rfl, hfz, hnd⟩ := hW
 have hA : DataW.TrodAll enc Tryd.prog W 0 (fun _ => true) true Tryd.f5.params.toList args.toList ds p := hA0
 rw [Tryd.params5] at hA hval
 obtain ⟨hargs, rfl, rfl⟩ := trodAll_nil hA
 obtain rfl : args = #[] := by cases args; simp_all
 obtain ⟨rfl, rfl⟩ := trodVars_none hV
 refine (numbers6_any  (tab_of hL)).mono fun e W' ⟨he, bel⟩ => ?_
 subst he
 exact ⟨_, rfl, _, _, _, [], _, [], hW', trodAll_mk1 (shut_bool Tryd.underlying4 _), trodAll_mk0, rfl, bel.frame _, fun h => by cases h⟩

theorem laid_met (os : Os) : laidMet Tryd.prog Rows.matrixNumbersRow.laid ((laidWorld os).forCall (fun _ _ => 0) ⟨#[], #[], []⟩).memory :=
 laidMet_of_run' 8 (by kernel_rfl) (by kernel_rfl)
set_option maxRecDepth 100000 in
theorem reads (os : Os) {H : Type} (enc : TypeId × Value → H) : ∃ places, DataW.whole enc Tryd.prog ((laidWorld os).forCall (fun _ _ => 0) ⟨#[], #[], []⟩).memory Tryd.f5.params.toList Rows.matrixNumbersSpec.vars false (#[] : Array Value).toList 8 = some ([], [], places) :=
 ⟨[], by kernel_rfl⟩

set_option maxRecDepth 100000 in
theorem lifted (os : Os) (started : os.Started) (H : Type) (enc : TypeId × Value → H) (F : Stop.Interp) :
  ReturnsInHanded {} Tryd.checked os 5 .any ((OpenSpec.ofChange Rows.matrixNumbersSpec).preRow enc Tryd.prog Tryd.f5 Rows.matrixNumbersRow.domain false Rows.matrixNumbersRow.laid) (((OpenSpec.ofChange Rows.matrixNumbersSpec).at F).post enc Tryd.prog Tryd.f5 false true false false) := by
 obtain ⟨places, hx⟩ := reads os enc
 refine returnsInHanded_of_row (C := Tryd.checked) (s := OpenSpec.ofChange Rows.matrixNumbersSpec) own started (by kernel_rfl) Tryd.func5
  (witness_row_at (enc := enc) (C := Tryd.checked) false (laidWorld os) #[] rfl (by kernel_rfl) (by kernel_rfl) (by kernel_rfl)
   (OpenSpec.preRow_of_cond 8 hx (by kernel_rfl) (fun k hk => by cases hk) (by kernel_rfl) (laid_met os))) ?_
 intro W base args ds gs before hval hW _ _ _ hL _ _
 exact contract H enc W base args ds gs before hval hW hL

theorem said : Rows.MatrixNumbersSaid :=
 OpenClaim.holds_of_cond 5 Tryd.f5 rfl rfl rfl rfl rfl rfl rfl ⟨rfl, rfl, rfl, rfl, rfl⟩ rfl rfl rfl rfl rfl (by kernel_rfl) Tryd.func5 (by kernel_rfl)
  (of_decide_eq_true (by kernel_rfl)) (by unfold Func.isWrapper; first | (rw [if_pos (by decide +kernel)]; kernel_rfl) | (rw [if_neg (by decide +kernel)]; exact ⟨rfl, rfl⟩))
  (fun os started H enc _ F => by rw [OpenClaim.pre_eq_preRow]; exact lifted os started H enc F)

theorem plain (f : FuncId) (fn : Func) (hf : Tryd.pinned.checked.prog.funcNamed "tripwire/tripwirelaw06.MatrixNumbers" = some f) (hfn : Tryd.pinned.checked.prog.funcs[f]? = some fn) :
  false = Tryd.pinned.checked.prog.looks [] ∧ ∀ (j : Nat) t, fn.params[j]? = some t → Tryd.pinned.checked.prog.wantsStandIn t = false := by
 obtain rfl : f = 5 := Option.some.inj ((show Tryd.prog.funcNamed "tripwire/tripwirelaw06.MatrixNumbers" = some 5 by kernel_rfl).symm.trans hf) |>.symm
 obtain rfl : fn = Tryd.f5 := (Option.some.inj (Tryd.func5.symm.trans hfn)).symm
 refine ⟨by kernel_rfl, fun j t ht => ?_⟩
 rw [Tryd.params5] at ht
 simp at ht

theorem card : Rows.MatrixNumbersCardSaid :=
 Claim7.holds_tied_plain_at .later [] _ _ _ _ said (fun _ h => by cases h) (by kernel_rfl) (fun _ h => by cases h) matrixNumbers_row_tie rfl ⟨rfl, rfl⟩ (by kernel_rfl) rfl plain (by kernel_rfl)
end matrixNumbers
end Go.Proofs.YtldcfmangolkoaaDoor
