/-
  matrix.Times. Written by wip/gen/tm1.py.
-/
import Derived.Test.YtldcfmangolkoaaGreatDoorYMxT
import Derived.Test.YtldcfmangolkoaaGreatDoorYRow
namespace Go.Proofs.YtldcfmangolkoaaGreatDoor
open Go.RowKit Tw

def TM1 (w W : World) (C : List (List (Int × Rat))) (X : List (Int × Rat)) (MM n gk : Nat) (s5 s13 : Value) (wr : World) : Prop :=
 ∃ (i k : Nat) (H : Option Addr) (hc : Nat) (O : List Tm), s5 = .slice H k hc ∧ s13 = .int .i64 (i : Int) ∧ i ≤ n ∧ n - i = gk ∧
  OwnR wr W.heap.size 118 5 (.slice H k hc) k (flat Tm.cs O) ∧ prs O = timesP C (X.take i) ∧ OnT wr O (fun _ => MM) ∧ Below w.heap.size w wr ∧ Below W.heap.size W wr
def TM2 (w W : World) (cs : Array Value) (v0 : Nat) (Z : List (Int × Rat)) (T : List Tm) (q : Rat) (MM n gk : Nat) (s5 s33 : Value) (wr : World) : Prop :=
 ∃ (j k : Nat) (H : Option Addr) (hc : Nat) (O : List Tm), s5 = .slice H k hc ∧ s33 = .int .i64 (j : Int) ∧ j ≤ n ∧ n - j ≤ gk ∧
  OwnR wr W.heap.size 118 5 (.slice H k hc) k (flat Tm.cs O) ∧ prs O = Z ++ (prs (T.take j)).map (fun c => (c.1, c.2 * q)) ∧ OnT wr O (fun _ => MM) ∧ Bx wr v0 cs 118 ∧ Below w.heap.size w wr ∧ Below W.heap.size W wr ∧ some v0 ≠ (Value.slice H k hc).ownBlock
set_option maxRecDepth 100000 in
set_option maxHeartbeats 4000000 in
theorem timesV_q {w : World} {X A : Option Addr} {nx cx n c : Nat} {P : List (Int × Rat)} {CL : List Vc} (M MC kc mc : Nat) (h : Sl Vc.cs 1 w A n c CL) (hcl : Hid (∀ v ∈ CL, GV w v.A v.n v.c (prs v.L) MC ∧ v.n ≤ kc ∧ wtot (prs v.L) ≤ mc)) (hx0 : GV w X nx cx P M)
  (hM : M ≤ 9000) (hMC : MC ≤ 9000) (hnx : nx ≤ 1000) (hkc : kc ≤ 1000) (hn : n ≤ 1000000) (D : Nat) (hD : nx * mc + kc * wtot P ≤ D) (hD2 : D ≤ 18000) (hT : Hid (Tab w)) :
  Calls Tryz.prog 43 #[.slice A n c, .slice X nx cx] w (TellsV w (nrm (timesP (CL.map fun v => prs v.L) (nrm P))) D) := by
 have H := Lib.hid h
 have HLN := Lib.hid h.1
 have hx := Lib.hid hx0
 have HPL := Lib.hid hx0.len
 have hM : M ≤ 19000 := by omega
 have hnx : nx ≤ 1000000 := by omega
 clear h hx0
 have hB := Below.refl w.heap.size w
 have Bz := Below.refl w.heap.size w
 go_enter Tryz.func43, Tryz.ntmps43
 go_wp2_with fail
 with_reducible refine (normV_q (hx.out.below (below_trans hB (below_trans (b := w) Bz (by go_grown)))) hM hnx (Lib.hid (Tab.below hT.out (below_trans hB (below_trans (b := w) Bz (by go_grown)))))).mono ?_
 rintro e w1 ⟨A1, n1, c1, rfl, h1, b1⟩
 replace b1 := below_trans (a := w) (by go_grown) b1
 replace Bz := below_trans Bz b1
 clear b1
 go_wp2_with fail
 obtain ⟨L, x1, x2, x3, x4⟩ := h1
 have HS := Lib.hid x1
 have HL1 := Lib.hid x1.1
 have HON := Lib.hid x2
 have HPX := Lib.hid x3
 have hn1 : n1 ≤ nx := by
  have h1 := nrm_len P
  rw [← HPX.out, prs_len, HL1.out, HPL.out] at h1
  exact h1
 have HB1 := Lib.hid (below_trans hB Bz)
 have hWs := Bz.size
 clear x1 x2 x3 x4 hB Bz
 go_loopg [5, 13] n1 (fun gk s5 s13 wr => TM1 w w1 (CL.map fun v => prs v.L) (nrm P) (MC + M + 2) n1 gk s5 s13 wr)
 case atStart => exact ⟨0, 0, _, _, [], rfl, rfl, Nat.zero_le _, rfl, OwnR.nil _ _ _ _, rfl, OnT.nil _ _, HB1.out, Below.refl _ _⟩
 case round =>
  clear HB1
  obtain ⟨i, k, Hd, hc, O, rfl, rfl, hi, hgk, ho, hp, hon, hB, hBW⟩ := hrel
  have HP := Lib.hid hp
  have HGK := Lib.hid hgk
  clear hp hgk
  by_cases hlt : i < n1
  ·obtain ⟨b, off, rfl, hel⟩ := HS.out.at Tm.cs_len (by omega) (by omega)
   obtain ⟨x, hx'⟩ : ∃ x, L[i]? = some x := ⟨L[i]'(by rw [HL1.out]; exact hlt), List.getElem?_eq_getElem _⟩
   have hnd := hel i x hx'
   have hsn := timesP_snoc (CL.map fun v => prs v.L) (X := nrm P) (i := i) (t := (x.at_, x.x.q)) (by rw [← HPX.out]; exact prs_get hx')
   rw [List.length_map, HLN.out] at hsn
   have i1 : (i : Int) < (n1 : Int) := by omega
   have i2 : (0 : Int) ≤ (i : Int) := by omega
   clear hel
   by_cases g1 : x.at_ < 0
   ·have HP2 : Hid (prs O = timesP (CL.map fun v => prs v.L) ((nrm P).take (i + 1))) := Lib.hid (by rw [hsn, if_neg (fun h => by have := h.1; simp only at this; omega), List.append_nil, HP.out])
    clear hsn hx'
    have Bz := Below.refl wr.heap.size wr
    have p50_0 := (hnd.below (below_trans hBW Bz)).c0 (u := .int .i64 x.at_) rfl
    have p50_1 := (hnd.below (below_trans hBW Bz)).at 1 (.bool x.x.s) rfl
    have p50_2 := (hnd.below (below_trans hBW Bz)).at 2 (.slice x.x.A x.x.l x.x.c) rfl
    have p50_3 := (hnd.below (below_trans hBW Bz)).at 3 (.bool x.x.s') rfl
    have p50_4 := (hnd.below (below_trans hBW Bz)).at 4 (.slice x.x.A' x.x.l' x.x.c') rfl
    go_upto_region 5 with (fail)
    obtain ⟨V11, hW, x0, hN⟩ := boxes1 wr #[.int .i64 x.at_, .bool x.x.s, .slice x.x.A x.x.l x.x.c, .bool x.x.s', .slice x.x.A' x.x.l' x.x.c'] 118
    rw [← hW]
    clear hW
    obtain ⟨v0, hb0⟩ : ∃ b, b = wr.heap.size := ⟨_, rfl⟩
    rw [← hb0] at x0 ⊢
    have ow_0 : w.heap.size ≤ v0 := by have := hB.size; have := Bz.size; omega
    replace hon := hon.below hN
    replace ho := ho.below hN
    replace hB := below_trans (below_trans hB Bz) hN
    replace hBW := below_trans (below_trans hBW Bz) hN
    have HX0 := Lib.hid x0
    clear x0 hN Bz hb0
    have Bz := Below.refl V11.heap.size V11
    clear p50_0 p50_1 p50_2 p50_3 p50_4
    have p0_0 := (HX0.out.below Bz).cell 0 (.int .i64 x.at_) rfl
    go_wp2_with fail
    go_roundg (n1 - (i + 1))
    case measure => have := HGK.out; omega
    case rel => exact ⟨i + 1, k, _, _, O, rfl, by go_num, by omega, by omega, OwnR.below ho (by go_grown), HP2.out, OnT.below hon (by go_grown), below_trans (below_trans hB Bz) (by go_grown), below_trans (below_trans hBW Bz) (by go_grown)⟩
   by_cases g2 : (n : Int) ≤ x.at_
   ·have HP2 : Hid (prs O = timesP (CL.map fun v => prs v.L) ((nrm P).take (i + 1))) := Lib.hid (by rw [hsn, if_neg (fun h => by have := h.2; simp only at this; omega), List.append_nil, HP.out])
    clear hsn hx'
    have Bz := Below.refl wr.heap.size wr
    have p50_0 := (hnd.below (below_trans hBW Bz)).c0 (u := .int .i64 x.at_) rfl
    have p50_1 := (hnd.below (below_trans hBW Bz)).at 1 (.bool x.x.s) rfl
    have p50_2 := (hnd.below (below_trans hBW Bz)).at 2 (.slice x.x.A x.x.l x.x.c) rfl
    have p50_3 := (hnd.below (below_trans hBW Bz)).at 3 (.bool x.x.s') rfl
    have p50_4 := (hnd.below (below_trans hBW Bz)).at 4 (.slice x.x.A' x.x.l' x.x.c') rfl
    go_upto_region 5 with (fail)
    obtain ⟨V11, hW, x0, hN⟩ := boxes1 wr #[.int .i64 x.at_, .bool x.x.s, .slice x.x.A x.x.l x.x.c, .bool x.x.s', .slice x.x.A' x.x.l' x.x.c'] 118
    rw [← hW]
    clear hW
    obtain ⟨v0, hb0⟩ : ∃ b, b = wr.heap.size := ⟨_, rfl⟩
    rw [← hb0] at x0 ⊢
    have ow_0 : w.heap.size ≤ v0 := by have := hB.size; have := Bz.size; omega
    replace hon := hon.below hN
    replace ho := ho.below hN
    replace hB := below_trans (below_trans hB Bz) hN
    replace hBW := below_trans (below_trans hBW Bz) hN
    have HX0 := Lib.hid x0
    clear x0 hN Bz hb0
    have Bz := Below.refl V11.heap.size V11
    clear p50_0 p50_1 p50_2 p50_3 p50_4
    have p0_0 := (HX0.out.below Bz).cell 0 (.int .i64 x.at_) rfl
    go_wp2_with fail
    go_roundg (n1 - (i + 1))
    case measure => have := HGK.out; omega
    case rel => exact ⟨i + 1, k, _, _, O, rfl, by go_num, by omega, by omega, OwnR.below ho (by go_grown), HP2.out, OnT.below hon (by go_grown), below_trans (below_trans hB Bz) (by go_grown), below_trans (below_trans hBW Bz) (by go_grown)⟩
   obtain ⟨u, hu⟩ : ∃ u, CL[x.at_.toNat]? = some u := ⟨CL[x.at_.toNat]'(by rw [HLN.out]; omega), List.getElem?_eq_getElem _⟩
   obtain ⟨d, offd, rfl, held⟩ := H.out.at Vc.cs_len (by omega) (by omega)
   have hnd2 : ElA w d (offd + x.at_.toNat) u.cs := by have := held x.at_.toNat u hu; rwa [Nat.mul_one] at this
   have i3 : (0 : Int) ≤ x.at_ := by omega
   have i4 : x.at_ < (n : Int) := by omega
   have hcu := hcl.out u (List.mem_of_getElem? hu)
   clear held
   have HV00 : Hid (some wr.heap.size ≠ (Value.slice Hd k hc).ownBlock) := Lib.hid (ho.off' (Nat.le_refl _))
   have Bz := Below.refl wr.heap.size wr
   have p50_0 := (hnd.below (below_trans hBW Bz)).c0 (u := .int .i64 x.at_) rfl
   have p50_1 := (hnd.below (below_trans hBW Bz)).at 1 (.bool x.x.s) rfl
   have p50_2 := (hnd.below (below_trans hBW Bz)).at 2 (.slice x.x.A x.x.l x.x.c) rfl
   have p50_3 := (hnd.below (below_trans hBW Bz)).at 3 (.bool x.x.s') rfl
   have p50_4 := (hnd.below (below_trans hBW Bz)).at 4 (.slice x.x.A' x.x.l' x.x.c') rfl
   go_upto_region 5 with (fail)
   obtain ⟨V11, hW, x0, hN⟩ := boxes1 wr #[.int .i64 x.at_, .bool x.x.s, .slice x.x.A x.x.l x.x.c, .bool x.x.s', .slice x.x.A' x.x.l' x.x.c'] 118
   rw [← hW]
   clear hW
   obtain ⟨v0, hb0⟩ : ∃ b, b = wr.heap.size := ⟨_, rfl⟩
   rw [← hb0] at x0 ⊢
   have ow_0 : w.heap.size ≤ v0 := by have := hB.size; have := Bz.size; omega
   replace hon := hon.below hN
   replace ho := ho.below hN
   replace hB := below_trans (below_trans hB Bz) hN
   replace hBW := below_trans (below_trans hBW Bz) hN
   have HX0 := Lib.hid x0
   have HV0 : Hid (some v0 ≠ (Value.slice Hd k hc).ownBlock) := by rw [hb0]; exact HV00
   clear x0 hN Bz hb0 HV00
   have Bz := Below.refl V11.heap.size V11
   clear p50_0 p50_1 p50_2 p50_3 p50_4
   have p0_0 := (HX0.out.below Bz).cell 0 (.int .i64 x.at_) rfl
   have p51_0 := (hnd2.below (below_trans hB Bz)).c0 (u := .slice u.A u.n u.c) rfl
   go_wp2_with fail
   have XX0 := Lib.hid (HX0.out.below Bz)
   have HBB := Lib.hid (below_trans hB Bz)
   have HBV := Lib.hid (below_trans hBW Bz)
   have HO1 := Lib.hid (ho.below Bz)
   have HN1 := Lib.hid (hon.below Bz)
   obtain ⟨⟨T, t1, t2, t3, t4, t5⟩, hunk, hmc⟩ := hcu
   have HT := Lib.hid t1
   have HTL := Lib.hid t1.1
   have HTK := Lib.hid t2
   have HTP := Lib.hid t3
   have HTW := Lib.hid t4
   have HRX := Lib.hid (HON.out.ok x (List.mem_of_getElem? hx'))
   have hdx := HON.out.dg x (List.mem_of_getElem? hx')
   have hsx : sz x.x.q + 1 ≤ M := (HON.out x (List.mem_of_getElem? hx')).2.2
   have HSN := Lib.hid hsn
   have hxv : v0 < V11.heap.size := by have := XX0.out.lt; omega
   clear t1 t2 t3 t4 t5 hB Bz hBW ho hon hx' hsn HX0 hnd hnd2
   go_loopg [5, 33] u.n (fun gk s5 s33 wr => TM2 w w1 #[.int .i64 x.at_, .bool x.x.s, .slice x.x.A x.x.l x.x.c, .bool x.x.s', .slice x.x.A' x.x.l' x.x.c'] v0 (timesP (CL.map fun v => prs v.L) ((nrm P).take i)) T x.x.q (MC + M + 2) u.n gk s5 s33 wr)
   case atStart => exact ⟨0, k, _, _, O, rfl, rfl, Nat.zero_le _, Nat.le_refl _, HO1.out, by rw [HP.out]; exact (List.append_nil _).symm, HN1.out, XX0.out, HBB.out, HBV.out, HV0.out⟩
   case round =>
    clear XX0 HO1 HN1 HBB HBV HP
    obtain ⟨j, k, Hd, hc, O, rfl, rfl, hj, hgj, ho, hp, hon, hx0, hB, hBW, hv0⟩ := hrel
    have HP := Lib.hid hp
    have HX0 := Lib.hid hx0
    clear hp hx0
    by_cases hlu : j < u.n
    ·obtain ⟨eb, offe, he, hel⟩ := HT.out.at Tm.cs_len (by omega) (by omega)
     rw [he]
     obtain ⟨y, hy⟩ : ∃ y, T[j]? = some y := ⟨T[j]'(by rw [HTL.out]; exact hlu), List.getElem?_eq_getElem _⟩
     have hndy := hel j y hy
     have hfy := HTK.out y (List.mem_of_getElem? hy)
     have hry : R wr y.x.s y.x.A y.x.c y.x.l y.x.s' y.x.A' y.x.c' y.x.l' y.x.q (dgT y) := (hfy.below hB).r
     have hrx : R wr x.x.s x.x.A x.x.c x.x.l x.x.s' x.x.A' x.x.c' x.x.l' x.x.q (dgT x) := (HRX.out.below hBW).r
     have hdy : dgT y + 2 ≤ MC := Nat.le_trans (wsum_mem (List.mem_of_getElem? hy)) (HTW.out _)
     have hsz : sz (y.x.q * x.x.q) ≤ (dgT y + 1) + sz x.x.q := sz_mul hfy.szd (Nat.le_refl _)
     have HS1 : Hid (sz (y.x.q * x.x.q) + 1 ≤ MC + M + 2) := Lib.hid (by omega)
     have HP2 : Hid (∀ r : Fr, r.q = y.x.q * x.x.q → prs (O ++ [⟨y.at_, r⟩]) = timesP (CL.map fun v => prs v.L) ((nrm P).take i) ++ (prs (T.take (j + 1))).map (fun c => (c.1, c.2 * x.x.q))) := Lib.hid (fun r hr => by
      rw [take_snoc hy, prs_append, prs_append, List.map_append, ← List.append_assoc, ← HP.out]
      congr 1
      show [((y.at_, r.q) : Int × Rat)] = [(y.at_, y.x.q * x.x.q)]
      rw [hr])
     have hkb : k ≤ 20000 := by
      have h1 := timesP_len (C := CL.map fun v => prs v.L) (k := kc) (fun c hc => by
       obtain ⟨v, hv, rfl⟩ := List.mem_map.1 hc
       have h2 := hcl.out v hv
       have := h2.1.len
       omega) ((nrm P).take i)
      have h2 : ((nrm P).take i).length ≤ wtot P := by have h8 := len_wtot (nrm P); have h9 := wtot_nrm P; rw [List.length_take]; omega
      have h3 := Nat.mul_le_mul_right kc h2
      rw [Nat.mul_comm (wtot P) kc] at h3
      have h4 : O.length = k := ho.eltn elt_term (by omega)
      have h5 := congrArg List.length HP.out
      rw [prs_len, List.length_append, List.length_map, prs_len, List.length_take, h4] at h5
      omega
     have j1 : (j : Int) < (u.n : Int) := by omega
     have j2 : (0 : Int) ≤ (j : Int) := by omega
     clear hel hy hfy hsz
     have Bz := Below.refl wr.heap.size wr
     have p50_0 := (hndy.below (below_trans hB Bz)).c0 (u := .int .i64 y.at_) rfl
     have p50_1 := (hndy.below (below_trans hB Bz)).at 1 (.bool y.x.s) rfl
     have p50_2 := (hndy.below (below_trans hB Bz)).at 2 (.slice y.x.A y.x.l y.x.c) rfl
     have p50_3 := (hndy.below (below_trans hB Bz)).at 3 (.bool y.x.s') rfl
     have p50_4 := (hndy.below (below_trans hB Bz)).at 4 (.slice y.x.A' y.x.l' y.x.c') rfl
     go_upto_region 9 with (fail)
     obtain ⟨V21, hW, x1, hN⟩ := boxes1 wr #[.int .i64 y.at_, .bool y.x.s, .slice y.x.A y.x.l y.x.c, .bool y.x.s', .slice y.x.A' y.x.l' y.x.c'] 118
     rw [← hW]
     clear hW
     obtain ⟨v1, hb1⟩ : ∃ b, b = wr.heap.size := ⟨_, rfl⟩
     rw [← hb1] at x1 ⊢
     have o0_1 : v0 < v1 := by have := (HX0.out.below Bz).lt; omega
     have ow_1 : w.heap.size ≤ v1 := by have := hB.size; have := Bz.size; omega
     have nv1_own := OwnR.off' (b := v1) ho (by omega)
     replace hon := hon.below hN
     replace ho := ho.below hN
     replace hrx := hrx.below hN
     replace hry := hry.below hN
     replace hB := below_trans (below_trans hB Bz) hN
     replace hBW := below_trans (below_trans hBW Bz) hN
     replace HX0 := Lib.hid ((HX0.out.below Bz).below hN)
     have HX1 := Lib.hid x1
     clear x1 hN Bz hb1
     have Bz := Below.refl V21.heap.size V21
     clear p50_0 p50_1 p50_2 p50_3 p50_4
     have p0_1 := (HX0.out.below Bz).cell 1 (.bool x.x.s) rfl
     have p0_2 := (HX0.out.below Bz).cell 2 (.slice x.x.A x.x.l x.x.c) rfl
     have p0_3 := (HX0.out.below Bz).cell 3 (.bool x.x.s') rfl
     have p0_4 := (HX0.out.below Bz).cell 4 (.slice x.x.A' x.x.l' x.x.c') rfl
     have p1_0 := (HX1.out.below Bz).cell 0 (.int .i64 y.at_) rfl
     have p1_1 := (HX1.out.below Bz).cell 1 (.bool y.x.s) rfl
     have p1_2 := (HX1.out.below Bz).cell 2 (.slice y.x.A y.x.l y.x.c) rfl
     have p1_3 := (HX1.out.below Bz).cell 3 (.bool y.x.s') rfl
     have p1_4 := (HX1.out.below Bz).cell 4 (.slice y.x.A' y.x.l' y.x.c') rfl
     go_wp2_with fail
     (try simp only [List.append_eq, List.cons_append, List.nil_append])
     refine wp_region_plan (.pure 0 (.pure 1 (.take 2 (.pure 3 (.take 4 (.pure 5 (.take 6 (.only 7 (.pure 8 (.only 9 (.only 10 (.pure 11 .done)))))))))))) [10] (fun w' => w'.cell? ⟨v0, 1, none⟩ = some (.bool x.x.s) ∧ w'.cell? ⟨v0, 2, none⟩ = some (.slice x.x.A x.x.l x.x.c) ∧ w'.cell? ⟨v0, 3, none⟩ = some (.bool x.x.s') ∧ w'.cell? ⟨v0, 4, none⟩ = some (.slice x.x.A' x.x.l' x.x.c') ∧ w'.cell? ⟨v1, 0, none⟩ = some (.int .i64 y.at_) ∧ w'.cell? ⟨v1, 1, none⟩ = some (.bool y.x.s) ∧ w'.cell? ⟨v1, 2, none⟩ = some (.slice y.x.A y.x.l y.x.c) ∧ w'.cell? ⟨v1, 3, none⟩ = some (.bool y.x.s') ∧ w'.cell? ⟨v1, 4, none⟩ = some (.slice y.x.A' y.x.l' y.x.c')) (by kernel_rfl) (by kernel_rfl) ⟨p0_1, p0_2, p0_3, p0_4, p1_0, p1_1, p1_2, p1_3, p1_4⟩ ?_
     refine wpPlan_pure (o := ⟨some 37, _, _, _, _, _⟩) rfl rfl (fun w' => by go_simp <;> with_reducible rfl) ?_
     try simp only [pUt, pLt, pZt, pSt]
     refine wpPlan_pure (o := ⟨some 38, _, _, _, _, _⟩) rfl rfl (fun w' => by go_simp <;> with_reducible rfl) ?_
     try simp only [pUt, pLt, pZt, pSt]
     refine wpPlan_take (o := ⟨some 39, _, _, _, _, _⟩) rfl rfl (fun w' ⟨p0_1, p0_2, p0_3, p0_4, p1_0, p1_1, p1_2, p1_3, p1_4⟩ => by go_simp <;> with_reducible rfl) ?_
     try simp only [pUt, pLt, pZt, pSt]
     refine wpPlan_pure (o := ⟨some 40, _, _, _, _, _⟩) rfl rfl (fun w' => by go_simp <;> with_reducible rfl) ?_
     try simp only [pUt, pLt, pZt, pSt]
     refine wpPlan_take (o := ⟨some 41, _, _, _, _, _⟩) rfl rfl (fun w' ⟨p0_1, p0_2, p0_3, p0_4, p1_0, p1_1, p1_2, p1_3, p1_4⟩ => by go_simp <;> with_reducible rfl) ?_
     try simp only [pUt, pLt, pZt, pSt]
     refine wpPlan_pure (o := ⟨some 42, _, _, _, _, _⟩) rfl rfl (fun w' => by go_simp <;> with_reducible rfl) ?_
     try simp only [pUt, pLt, pZt, pSt]
     refine wpPlan_take (o := ⟨some 43, _, _, _, _, _⟩) rfl rfl (fun w' ⟨p0_1, p0_2, p0_3, p0_4, p1_0, p1_1, p1_2, p1_3, p1_4⟩ => by go_simp <;> with_reducible rfl) ?_
     try simp only [pUt, pLt, pZt, pSt]
     refine wpPlan_call (o := ⟨some 44, _, _, _, _, _⟩) rfl rfl (fun K hK => ?_)
     go_simp
     with_reducible refine (mul_q (R.below hry (by go_grown)) (R.below hrx (by go_grown)) (by omega) (Lib.hid (Tab.below hT.out (below_trans hB (below_trans (b := V21) Bz (by go_grown)))))).mono ?_
     rintro e w11 ⟨s11, A11, c11, l11, s11r, A11r, c11r, l11r, rfl, h11, b11⟩
     replace b11 := below_trans (a := V21) (by go_grown) b11
     replace hon := hon.below b11
     replace ho := ho.below b11
     replace Bz := below_trans Bz b11
     clear b11
     clear p0_1 p0_2 p0_3 p0_4 p1_0 p1_1 p1_2 p1_3 p1_4
     have p0_1 := (HX0.out.below Bz).cell 1 (.bool x.x.s) rfl
     have p0_2 := (HX0.out.below Bz).cell 2 (.slice x.x.A x.x.l x.x.c) rfl
     have p0_3 := (HX0.out.below Bz).cell 3 (.bool x.x.s') rfl
     have p0_4 := (HX0.out.below Bz).cell 4 (.slice x.x.A' x.x.l' x.x.c') rfl
     have p1_0 := (HX1.out.below Bz).cell 0 (.int .i64 y.at_) rfl
     have p1_1 := (HX1.out.below Bz).cell 1 (.bool y.x.s) rfl
     have p1_2 := (HX1.out.below Bz).cell 2 (.slice y.x.A y.x.l y.x.c) rfl
     have p1_3 := (HX1.out.below Bz).cell 3 (.bool y.x.s') rfl
     have p1_4 := (HX1.out.below Bz).cell 4 (.slice y.x.A' y.x.l' y.x.c') rfl
     refine hK.out _ _ ⟨p0_1, p0_2, p0_3, p0_4, p1_0, p1_1, p1_2, p1_3, p1_4⟩ (fun _ => ?_)
     try simp only [pUt, pLt, pZt, pSt]
     clear hK K
     refine wpPlan_pure (o := ⟨some 45, _, _, _, _, _⟩) rfl rfl (fun w' => by go_simp <;> with_reducible rfl) ?_
     try simp only [pUt, pLt, pZt, pSt]
     refine wpPlan_call (o := ⟨some 46, _, _, _, _, _⟩) rfl rfl (fun K hK => ?_)
     go_simp
     refine hK.out _ _ ⟨(cell_al p0_1), (cell_al p0_2), (cell_al p0_3), (cell_al p0_4), (cell_al p1_0), (cell_al p1_1), (cell_al p1_2), (cell_al p1_3), (cell_al p1_4)⟩ (fun _ => ?_)
     try simp only [pUt, pLt, pZt, pSt]
     clear hK K
     refine wpPlan_late (o := ⟨some 47, _, _, _, _, _⟩) rfl rfl (by decide) (fun K hK => ?_)
     obtain ⟨V22, hW, x2, hN⟩ := boxes1 w11 #[.int .i64 y.at_, .bool s11, .slice A11 l11 c11, .bool s11r, .slice A11r l11r c11r] 118
     rw [← hW]
     clear hW
     obtain ⟨v2, hb2⟩ : ∃ b, b = w11.heap.size := ⟨_, rfl⟩
     rw [← hb2] at x2 ⊢
     have o0_2 : v0 < v2 := by have := (HX0.out.below Bz).lt; omega
     have o1_2 : v1 < v2 := by have := (HX1.out.below Bz).lt; omega
     have ow_2 : w.heap.size ≤ v2 := by have := hB.size; have := Bz.size; omega
     have nv2_own := OwnR.off' (b := v2) ho (by omega)
     replace h11 := h11.below hN
     replace hon := hon.below hN
     replace ho := ho.below hN
     replace hB := below_trans (below_trans hB Bz) hN
     replace hBW := below_trans (below_trans hBW Bz) hN
     replace HX0 := Lib.hid ((HX0.out.below Bz).below hN)
     replace HX1 := Lib.hid ((HX1.out.below Bz).below hN)
     have HX2 := Lib.hid x2
     clear x2 hN Bz hb2
     have Bz := Below.refl V22.heap.size V22
     clear p0_1 p0_2 p0_3 p0_4 p1_0 p1_1 p1_2 p1_3 p1_4
     have hdr : V22.drew.heap.size = V22.heap.size := rfl
     have hdr2 : V22.drew.drew.heap.size = V22.heap.size := rfl
     refine Elt.wp elt_term _ _ rfl (w1.heap.size) (.slice Hd k hc) (k) (O) rfl ho (.slice (some ⟨v2, 0, none⟩) 1 1) (1) ([⟨y.at_, ⟨s11, A11, c11, l11, s11r, A11r, c11r, l11r, y.x.q * x.x.q, true⟩⟩]) rfl (From.one (HX2.out.below (below_trans Bz (by go_grown))) (⟨y.at_, ⟨s11, A11, c11, l11, s11r, A11r, c11r, l11r, y.x.q * x.x.q, true⟩⟩) rfl (elt_term.len _)) (by omega) (by have := hBW.size; have := Bz.size; omega) ?_
     intro H12 c12 w12 ho12 hg12
     refine hK.out _ _ ?_
     try simp only [pUt, pLt, pZt, pSt]
     clear hK K
     replace hB := (below_trans (below_trans hB Bz) (by go_grown)).trans (hg12.below (by have := hB.size; have := Bz.size; omega) (fun g hg => by have := ho.base g hg; omega))
     replace hBW := (below_trans (below_trans hBW Bz) (by go_grown)).trans (hg12.below (by have := hBW.size; have := Bz.size; omega) (fun g hg => by have := ho.base g hg; omega))
     have hv1 := hg12.ne (HX0.out.below Bz).lt hv0
     replace HX0 := Lib.hid (hg12.bx (HX0.out.below Bz) hv0)
     clear HX1
     clear HX2
     clear hdr hdr2
     replace h11 := h11.k hg12.k
     replace hon := hon.k hg12.k
     clear hg12 Bz
     have Bz := Below.refl w12.heap.size w12
     have p0_1 := (HX0.out.below Bz).cell 1 (.bool x.x.s) rfl
     have p0_2 := (HX0.out.below Bz).cell 2 (.slice x.x.A x.x.l x.x.c) rfl
     have p0_3 := (HX0.out.below Bz).cell 3 (.bool x.x.s') rfl
     have p0_4 := (HX0.out.below Bz).cell 4 (.slice x.x.A' x.x.l' x.x.c') rfl
     refine wpPlan_pure (o := ⟨some 5, _, _, _, _, _⟩) rfl rfl (fun w' => by go_simp <;> with_reducible rfl) ?_
     try simp only [pUt, pLt, pZt, pSt]
     refine wpPlan_done ?_
     go_wp2_with fail
     rw [← he]
     go_roundg (u.n - (j + 1))
     case measure => omega
     case rel => exact ⟨j + 1, k + 1, _, _, _, rfl, by go_num, by omega, by omega, OwnR.below ho12 (by go_grown), HP2.out _ rfl, (OnT.below hon (by go_grown)).snoc (RN.below h11 (by go_grown)) rfl HS1.out, HX0.out.below (below_trans Bz (by go_grown)), below_trans (below_trans hB Bz) (by go_grown), below_trans (below_trans hBW Bz) (by go_grown), hv1⟩
    ·have hju : j = u.n := by omega
     subst hju
     have j1 : ¬ (u.n : Int) < (u.n : Int) := by omega
     have HP2 : Hid (prs O = timesP (CL.map fun v => prs v.L) ((nrm P).take (i + 1))) := Lib.hid (by
      rw [HSN.out, if_pos ⟨i3, i4⟩, HP.out, List.take_of_length_le (l := T) (by rw [HTL.out]; exact Nat.le_refl _), HTP.out, List.getD_eq_getElem?_getD, List.getElem?_map, hu]
      rfl)
     go_wp2_with fail
     go_roundg (n1 - (i + 1))
     case measure => have := HGK.out; omega
     case rel => exact ⟨i + 1, k, _, _, O, rfl, by go_num, by omega, by omega, ho.below (by go_grown), HP2.out, OnT.below hon (by go_grown), below_trans hB (by go_grown), below_trans hBW (by go_grown)⟩
  ·obtain rfl : i = n1 := by omega
   have i1 : ¬ (i : Int) < (i : Int) := by omega
   have hpf : prs O = timesP (CL.map fun v => prs v.L) (nrm P) := by
    rw [HP.out, List.take_of_length_le]
    rw [← HPX.out, prs_len, HL1.out]
    exact Nat.le_refl _
   have hol := ho.eltn elt_term (by omega)
   have hc0 := ho.slice
   have hnp : (nrm P).length ≤ nx := by rw [← HPX.out, prs_len, HL1.out]; exact hn1
   have hb1 : wtot (prs O) + k ≤ nx * mc + kc * wtot P := by
    have h0 : k = (timesP (CL.map fun v => prs v.L) (nrm P)).length := by rw [← hpf, prs_len, hol]
    rw [hpf, h0]
    have h1 := wtot_times (C := CL.map fun v => prs v.L) (k := kc) (m := mc) (fun c hc => by
     obtain ⟨v, hv, rfl⟩ := List.mem_map.1 hc
     have h2 := hcl.out v hv
     exact ⟨by have := h2.1.len; omega, h2.2.2⟩) (nrm P)
    have h4 := timesP_len (C := CL.map fun v => prs v.L) (k := kc) (fun c hc => by
     obtain ⟨v, hv, rfl⟩ := List.mem_map.1 hc
     have h2 := hcl.out v hv
     have := h2.1.len
     omega) (nrm P)
    have h2 := Nat.mul_le_mul_right mc hnp
    have h3 := Nat.mul_le_mul_left kc (wtot_nrm P)
    rw [Nat.mul_comm _ kc] at h4
    omega
   have hgv : GV wr Hd k hc (timesP (CL.map fun v => prs v.L) (nrm P)) D := ⟨O, ho.sl' elt_term hol, hon.ok, hpf, fun a => by
    have h1 := wsum_tot a hon
    omega, fun hn0 => by
    obtain ⟨_, _, e9, h9, _⟩ := hc0
    cases e9
    exact (h9 hn0).2⟩
   have hnq := normV_q hgv (by omega) (by omega) (Lib.hid (hT.out.below hB))
   clear hgv hb1 hol hc0 ho hon hpf
   go_wp2_with fail
   with_reducible refine hnq.mono ?_
   rintro e w3 ⟨A3, n3, c3, rfl, h3, b3⟩
   have H3 := Lib.hid h3
   clear h3 hnq
   go_wp2_with fail
   go_ret
   exact ⟨A3, n3, c3, rfl, H3.out, below_trans hB b3⟩
end Go.Proofs.YtldcfmangolkoaaGreatDoor
