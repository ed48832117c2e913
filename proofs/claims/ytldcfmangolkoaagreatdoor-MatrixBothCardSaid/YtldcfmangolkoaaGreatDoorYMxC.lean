/-
  Columns in memory: contracts of Times and Left with numbers. By hand.
  matrix.Right, tripwirelow.SameVecs. Written by wip/gen/mx5.py.
  The examples of layer 6; contracts of Inverse, Move, Turn with numbers. Written by wip/gen/mx6.py.
-/
import Derived.Test.YtldcfmangolkoaaGreatDoorYTm1
import Derived.Test.YtldcfmangolkoaaGreatDoorYMxR
import Derived.Test.YtldcfmangolkoaaGreatDoorYMx2
import Derived.Test.YtldcfmangolkoaaGreatDoorYRow
import Derived.Test.YtldcfmangolkoaaGreatDoorYVm
import Derived.Test.YtldcfmangolkoaaGreatDoorYMxT
namespace Go.Proofs.YtldcfmangolkoaaGreatDoor
open Go.RowKit Tw

def CW (w : World) (A : Option Addr) (n c : Nat) (C : List (List (Int × Rat))) (M : Nat) : Prop :=
 ∃ CL : List Vc, Sl Vc.cs 1 w A n c CL ∧ (∀ v ∈ CL, GV w v.A v.n v.c (prs v.L) M) ∧ CL.map (fun v => prs v.L) = C
def CM (w : World) (A : Option Addr) (n c : Nat) (C : List (List (Int × Rat))) (M : Nat) : Prop :=
 ∃ CL : List Vc, Sl Vc.cs 1 w A n c CL ∧ (∀ v ∈ CL, CN w v M) ∧ CL.map (fun v => prs v.L) = C
theorem CW.below {w w' : World} {A : Option Addr} {n c M : Nat} {C : List (List (Int × Rat))} (h : CW w A n c C M) (hb : Below w.heap.size w w') : CW w' A n c C M := by
 obtain ⟨CL, h1, h2, h3⟩ := h
 exact ⟨CL, h1.below hb, fun v hv => (h2 v hv).below hb, h3⟩
theorem CM.below {w w' : World} {A : Option Addr} {n c M : Nat} {C : List (List (Int × Rat))} (h : CM w A n c C M) (hb : Below w.heap.size w w') : CM w' A n c C M := by
 obtain ⟨CL, h1, h2, h3⟩ := h
 exact ⟨CL, h1.below hb, fun v hv => (h2 v hv).below hb, h3⟩
theorem CW.len {w : World} {A : Option Addr} {n c M : Nat} {C : List (List (Int × Rat))} (h : CW w A n c C M) : C.length = n := by
 obtain ⟨CL, h1, _, rfl⟩ := h
 rw [List.length_map, h1.1]
theorem CM.len {w : World} {A : Option Addr} {n c M : Nat} {C : List (List (Int × Rat))} (h : CM w A n c C M) : C.length = n := by
 obtain ⟨CL, h1, _, rfl⟩ := h
 rw [List.length_map, h1.1]
theorem CM.cw {w : World} {A : Option Addr} {n c M : Nat} {C : List (List (Int × Rat))} (h : CM w A n c C M) (hr : ∀ x ∈ C, Rise x) : CW w A n c C (M + 1) := by
 obtain ⟨CL, h1, h2, rfl⟩ := h
 exact ⟨CL, h1, fun v hv => (h2 v hv).nv.gv (hr _ (List.mem_map_of_mem (f := fun v : Vc => prs v.L) hv)), rfl⟩
theorem times_len {C : List (List (Int × Rat))} {P : List (Int × Rat)} {k N : Nat} (hC : ∀ c ∈ C, c.length ≤ k) (hP : P.length ≤ N) : (nrm (timesP C (nrm P))).length ≤ N * k :=
 Nat.le_trans (nrm_len _) (Nat.le_trans (timesP_len hC _) (Nat.mul_le_mul_right _ (Nat.le_trans (nrm_len _) hP)))
theorem timesW {w : World} {X A : Option Addr} {nx cx n c : Nat} {P : List (Int × Rat)} {C : List (List (Int × Rat))} (M MC kc mc N WT D K : Nat) (h : CW w A n c C MC) (hx : GV w X nx cx P M) (hC : ∀ x ∈ C, x.length ≤ kc ∧ wtot x ≤ mc) (hnx : nx ≤ N) (hW : wtot P ≤ WT)
  (hM : M ≤ 9000) (hMC : MC ≤ 9000) (hN : N ≤ 1000) (hkc : kc ≤ 1000) (hn : n ≤ 1000000) (hD : N * mc + kc * WT ≤ D) (hD2 : D ≤ 18000) (hK : N * kc ≤ K) (hT : Hid (Tab w)) :
  Calls Tryz.prog 43 #[.slice A n c, .slice X nx cx] w (TellsW w (nrm (timesP C (nrm P))) D K) := by
 obtain ⟨CL, h1, h2, rfl⟩ := h
 have hl := hx.len
 have a1 := Nat.mul_le_mul_right mc hnx
 have a2 := Nat.mul_le_mul_left kc hW
 refine (timesV_q M MC kc mc h1 (Lib.hid fun v hv => ?_) hx hM hMC (by omega) hkc hn D (by omega) hD2 hT).mono fun _ _ k => k.w (Nat.le_refl _) (Nat.le_trans (times_len (fun c hc => (hC c hc).1) (by omega)) hK)
 have h3 := hC _ (List.mem_map_of_mem (f := fun v : Vc => prs v.L) hv)
 have h4 := (h2 v hv).len
 exact ⟨h2 v hv, by omega, h3.2⟩
theorem idx_len (l : List Rat) : (idxP l).length = l.length := List.length_mapIdx
theorem leftC {w : World} {X A : Option Addr} {nx cx n c : Nat} {P : List (Int × Rat)} {C : List (List (Int × Rat))} (M MC N K NN : Nat) (hx : GV w X nx cx P M) (h : CW w A n c C MC) (hnx : nx ≤ N) (hC : ∀ x ∈ C, x.length ≤ 1000) (hn : n ≤ NN) (hNN : NN ≤ 1000000)
  (hK : ∀ x ∈ C, sz (pdot (nrm P) x) ≤ K) (hK0 : 1 ≤ K) (hK1 : N * (M + 1 + MC + 3) ≤ 15000) (hK2 : K ≤ 15000) (hM : M ≤ 14000) (hMC : MC ≤ 14000) (hN : N ≤ 1000) (hT : Hid (Tab w)) :
  Calls Tryz.prog 45 #[.slice X nx cx, .slice A n c] w (TellsW w (nrm (idxP (C.map fun x => pdot P x))) (K + 2) NN) := by
 have hln := h.len
 obtain ⟨CL, h1, h2, rfl⟩ := h
 have e : (CL.map (fun v => prs v.L)).map (fun x => pdot P x) = CL.map fun v => pdot P (prs v.L) := by rw [List.map_map]; rfl
 rw [e]
 refine (leftW M MC N K hx hnx h1 (Lib.hid fun v hv => ?_) (by omega) (Lib.hid fun v hv => hK _ (List.mem_map_of_mem (f := fun v : Vc => prs v.L) hv)) hK0 hK1 hK2 hM hMC hN hT).mono fun _ _ k => k.w (Nat.le_refl _) (Nat.le_trans (nrm_len _) (by rw [idx_len, List.length_map]; rw [List.length_map] at hln; omega))
 have h3 := hC _ (List.mem_map_of_mem (f := fun v : Vc => prs v.L) hv)
 have h4 := (h2 v hv).len
 exact ⟨h2 v hv, by omega⟩
end Go.Proofs.YtldcfmangolkoaaGreatDoor
namespace Go.Proofs.YtldcfmangolkoaaGreatDoor
open Go.RowKit Tw

set_option maxRecDepth 100000 in
set_option maxHeartbeats 4000000 in
theorem mright_q {w : World} {A : Option Addr} {n c m : Nat} {CL : List Vc} {k : Int} (h : Sl Vc.cs 1 w A n c CL) (hcl : Hid (∀ v ∈ CL, Sl Tm.cs 5 w v.A v.n v.c v.L ∧ (∀ t ∈ v.L, FrOk w m t.x) ∧ v.n ≤ 1000000000)) (hm : m ≤ 20000) (hn : n ≤ 1000000000) (g1 : ¬ k < 0) (r : Bool) (hr : Hid ((CL.all fun v => rightB v.L k) = r)) (hT : Hid (Tab w)) :
  Calls Tryz.prog 47 #[.slice A n c, .int .i64 k] w fun e w' => e = .returned (.bool r) ∧ Below w.heap.size w w' := by
 have H := Lib.hid h
 have HLN := Lib.hid h.1
 have hra := hr
 have hst : AL1 w CL (fun v => rightB v.L k) n n (.int .i64 ((0 : Nat) : Int)) w := ⟨0, Nat.zero_le _, rfl, rfl, Below.refl _ _, by simp⟩
 have HST := Lib.hid hst
 clear h hr hst
 go_enter Tryz.func47, Tryz.ntmps47
 go_wp2_with fail
 go_loopg [11] n (fun gk s wr => AL1 w CL (fun v => rightB v.L k) n gk s wr)
 case atStart => exact HST.out
 case round =>
  clear HST
  obtain ⟨i, hi, hgk, rfl, hB, hd⟩ := hrel
  have HGK := Lib.hid hgk
  have HD := Lib.hid hd
  clear hgk hd
  by_cases hlt : i < n
  ·obtain ⟨b, off, rfl, hel⟩ := H.out.at Vc.cs_len (by omega) (by omega)
   obtain ⟨x, hx⟩ : ∃ x, CL[i]? = some x := ⟨CL[i]'(by rw [HLN.out]; exact hlt), List.getElem?_eq_getElem _⟩
   have hnd : ElA w b (off + i) (Vc.cs x) := by have := hel i x hx; rwa [Nat.mul_one] at this
   have HTI := Lib.hid hx
   have HV := Lib.hid (hcl.out x (List.mem_of_getElem? HTI.out))
   have i1 : (i : Int) < (n : Int) := by omega
   have i2 : (0 : Int) ≤ (i : Int) := by omega
   clear hx hel
   cases hp : rightB x.L k
   ·have HP := Lib.hid hp
    clear hp
    have Bz := Below.refl wr.heap.size wr
    have p50_0 := (hnd.below (below_trans hB Bz)).c0 (u := .slice x.A x.n x.c) rfl
    go_wp2_with fail
    with_reducible refine (right_q (HV.out.1.below (below_trans hB (below_trans (b := wr) Bz (by go_grown)))) (fun t ht => (HV.out.2.1 t ht).below (below_trans hB (below_trans (b := wr) Bz (by go_grown)))) hm HV.out.2.2 false HP (Lib.hid (Tab.below hT.out (below_trans hB (below_trans (b := wr) Bz (by go_grown)))))).mono ?_
    rintro e w1 ⟨rfl, b1⟩
    replace b1 := below_trans (a := wr) (by go_grown) b1
    replace Bz := below_trans Bz b1
    clear b1
    clear p50_0
    go_wp2_with fail
    go_ret
    have hF := below_trans (c := w1) hB Bz
    obtain rfl : r = false := by rw [← hra.out]; exact all_no HTI.out HP.out
    exact ⟨rfl, below_trans (below_trans hB Bz) (by go_grown)⟩
   ·have HP := Lib.hid hp
    clear hp
    have Bz := Below.refl wr.heap.size wr
    have p50_0 := (hnd.below (below_trans hB Bz)).c0 (u := .slice x.A x.n x.c) rfl
    go_wp2_with fail
    with_reducible refine (right_q (HV.out.1.below (below_trans hB (below_trans (b := wr) Bz (by go_grown)))) (fun t ht => (HV.out.2.1 t ht).below (below_trans hB (below_trans (b := wr) Bz (by go_grown)))) hm HV.out.2.2 true HP (Lib.hid (Tab.below hT.out (below_trans hB (below_trans (b := wr) Bz (by go_grown)))))).mono ?_
    rintro e w1 ⟨rfl, b1⟩
    replace b1 := below_trans (a := wr) (by go_grown) b1
    replace Bz := below_trans Bz b1
    clear b1
    clear p50_0
    go_wp2_with fail
    go_roundg (n - (i + 1))
    case measure => have := HGK.out; omega
    case rel => exact ⟨i + 1, by omega, rfl, by go_num, below_trans (below_trans hB Bz) (by go_grown), take_all HD.out HTI.out HP.out⟩
  ·obtain rfl : i = n := by omega
   have i1 : ¬ (i : Int) < (i : Int) := by omega
   obtain rfl : r = true := by rw [← hra.out]; exact all_yes HLN.out HD.out
   go_wp2_with fail
   go_ret
   exact ⟨rfl, hB⟩
theorem right_cn {w : World} {CL : List Vc} {C : List (List (Int × Rat))} {M : Nat} {k : Int} (h : ∀ v ∈ CL, CN w v M) (hC : CL.map (fun v => prs v.L) = C) : (CL.all fun v => rightB v.L k) = rightC k C := by
 subst hC
 rw [Bool.eq_iff_iff, rightC_iff, List.all_eq_true]
 refine ⟨fun ha c hc => ?_, fun hr v hv => ?_⟩
 ·obtain ⟨v, hv, rfl⟩ := List.mem_map.1 hc
  have h1 := rightB_nrm (ha v hv)
  refine ⟨h1.1, fun x hx => ?_⟩
  obtain ⟨t, ht, rfl⟩ := prs_mem hx
  exact ⟨(h1.2 t ht).1, (h1.2 t ht).2.1⟩
 ·have h1 := hr _ (List.mem_map_of_mem (f := fun v : Vc => prs v.L) hv)
  refine rightB_of h1.1 fun t ht => ?_
  have h2 := h1.2 (t.at_, t.x.q) (List.mem_map_of_mem (f := fun t : Tm => (t.at_, t.x.q)) ht)
  exact ⟨h2.1, h2.2, ((h v hv).2.1 t ht).2.1⟩
theorem mrightC {w : World} {A : Option Addr} {n c M : Nat} {C : List (List (Int × Rat))} {k : Int} (h : CM w A n c C M) (hC : ∀ x ∈ C, x.length ≤ 1000000) (hM : M ≤ 20000) (hn : n ≤ 1000000000) (g1 : ¬ k < 0) (r : Bool) (hr : Hid (rightC k C = r)) (hT : Hid (Tab w)) :
  Calls Tryz.prog 47 #[.slice A n c, .int .i64 k] w fun e w' => e = .returned (.bool r) ∧ Below w.heap.size w w' := by
 obtain ⟨CL, h1, h2, rfl⟩ := h
 refine mright_q (m := M) h1 (Lib.hid fun v hv => ⟨(h2 v hv).1, fun t ht => ?_, ?_⟩) hM hn g1 r (Lib.hid ((right_cn h2 rfl).trans hr.out)) hT
 ·exact (h2 v hv).2.1.fr (fun _ => Nat.le_refl _) t ht
 ·have h3 := hC _ (List.mem_map_of_mem (f := fun v : Vc => prs v.L) hv)
  have h4 := (h2 v hv).nv.len
  omega
def sameC (p : Vc × Vc) : Bool := decide (prs p.1.L = prs p.2.L)
theorem zip_prs : ∀ {L K : List Vc}, L.length = K.length → decide (L.map (fun v => prs v.L) = K.map fun v => prs v.L) = (L.zip K).all sameC
 | [], [], _ => rfl
 | [], _ :: _, h => by cases h
 | _ :: _, [], h => by cases h
 | x :: L, y :: K, h => by
  have ih := zip_prs (L := L) (K := K) (by simpa using h)
  rw [List.zip_cons_cons, List.all_cons, ← ih]
  unfold sameC
  simp only [List.map_cons, List.cons.injEq, Bool.decide_and]
def SV2 (w : World) (Z : List (Vc × Vc)) (n gk : Nat) (s : Value) (wr : World) : Prop := ∃ i : Nat, i ≤ n ∧ n - i = gk ∧ s = .int .i64 (i : Int) ∧ Below w.heap.size w wr ∧ (Z.take i).all sameC = true
set_option maxRecDepth 100000 in
set_option maxHeartbeats 4000000 in
theorem sameVecs_q {w : World} {A A' : Option Addr} {n n' c c' M M' : Nat} {C D : List (List (Int × Rat))} (h : CM w A n c C M) (h' : CM w A' n' c' D M') (hC : ∀ x ∈ C, x.length ≤ 1000000) (hD : ∀ x ∈ D, x.length ≤ 1000000) (hM : M ≤ 40000) (hM' : M' ≤ 40000) (hn : n ≤ 1000000000) (hn' : n' ≤ 1000000000) (r : Bool) (hr : Hid (decide (C = D) = r)) :
  Calls Tryz.prog 42 #[.slice A n c, .slice A' n' c'] w fun e w' => e = .returned (.bool r) ∧ Below w.heap.size w w' := by
 obtain ⟨L, x1, x2, rfl⟩ := h
 obtain ⟨K, y1, y2, rfl⟩ := h'
 have H := Lib.hid x1
 have H' := Lib.hid y1
 have HLN := Lib.hid x1.1
 have HMN := Lib.hid y1.1
 have HOX := Lib.hid x2
 have HOY := Lib.hid y2
 have HCX := Lib.hid hC
 have HCY := Lib.hid hD
 clear x1 x2 y1 y2 hC hD
 by_cases hnn : n = n'
 ·subst hnn
  have g0 : ((n : Int) != (n : Int)) = false := by simp
  have hra : Hid ((L.zip K).all sameC = r) := Lib.hid (by rw [← hr.out, zip_prs (HLN.out.trans HMN.out.symm)])
  have HZL : Hid ((L.zip K).length = n) := Lib.hid (by rw [List.length_zip, HLN.out, HMN.out]; exact Nat.min_self _)
  have hst : SV2 w (L.zip K) n n (.int .i64 ((0 : Nat) : Int)) w := ⟨0, Nat.zero_le _, rfl, rfl, Below.refl _ _, by simp⟩
  have HST := Lib.hid hst
  clear hst hr
  go_enter Tryz.func42, Tryz.ntmps42
  go_wp2_with fail
  go_loopg [5] n (fun gk s wr => SV2 w (L.zip K) n gk s wr)
  case atStart => exact HST.out
  case round =>
   clear HST
   obtain ⟨i, hi, hgk, rfl, hB, hd⟩ := hrel
   have HGK := Lib.hid hgk
   have HD := Lib.hid hd
   clear hgk hd
   by_cases hlt : i < n
   ·obtain ⟨b, off, rfl, hel⟩ := H.out.at Vc.cs_len (by omega) (by omega)
    obtain ⟨b', off', rfl, hel'⟩ := H'.out.at Vc.cs_len (by omega) (by omega)
    obtain ⟨x, ex⟩ : ∃ x, L[i]? = some x := ⟨L[i]'(by rw [HLN.out]; exact hlt), List.getElem?_eq_getElem _⟩
    obtain ⟨y, ey⟩ : ∃ y, K[i]? = some y := ⟨K[i]'(by rw [HMN.out]; exact hlt), List.getElem?_eq_getElem _⟩
    have hnd : ElA w b (off + i) (Vc.cs x) := by have := hel i x ex; rwa [Nat.mul_one] at this
    have hnd' : ElA w b' (off' + i) (Vc.cs y) := by have := hel' i y ey; rwa [Nat.mul_one] at this
    have HZI : Hid ((L.zip K)[i]? = some (x, y)) := Lib.hid (by rw [List.getElem?_zip_eq_some]; exact ⟨ex, ey⟩)
    have HVX := Lib.hid (HOX.out x (List.mem_of_getElem? ex))
    have HVY := Lib.hid (HOY.out y (List.mem_of_getElem? ey))
    have hxn : x.n ≤ 1000000 := by have h3 := HCX.out _ (List.mem_map_of_mem (f := fun v : Vc => prs v.L) (List.mem_of_getElem? ex)); have h4 := HVX.out.nv.len; omega
    have hyn : y.n ≤ 1000000 := by have h3 := HCY.out _ (List.mem_map_of_mem (f := fun v : Vc => prs v.L) (List.mem_of_getElem? ey)); have h4 := HVY.out.nv.len; omega
    have i1 : (i : Int) < (n : Int) := by omega
    have i2 : (0 : Int) ≤ (i : Int) := by omega
    clear ex hel ey hel'
    cases hp : decide (prs x.L = prs y.L)
    ·have HP := Lib.hid hp
     clear hp
     have Bz := Below.refl wr.heap.size wr
     have p50_0 := (hnd.below (below_trans hB Bz)).c0 (u := .slice x.A x.n x.c) rfl
     have p51_0 := (hnd'.below (below_trans hB Bz)).c0 (u := .slice y.A y.n y.c) rfl
     go_wp2_with fail
     (try simp only [List.append_eq, List.cons_append, List.nil_append])
     refine wp_region_plan (.pure 0 (.pure 1 (.pure 2 (.take 3 (.pure 4 (.pure 5 (.pure 6 (.take 7 (.only 8 (.pure 9 .done)))))))))) [] (fun w' => w'.cell? ⟨b, off + i, none⟩ = some (.slice x.A x.n x.c) ∧ w'.cell? ⟨b', off' + i, none⟩ = some (.slice y.A y.n y.c)) (by kernel_rfl) (by kernel_rfl) ⟨p50_0, p51_0⟩ ?_
     refine wpPlan_pure (o := ⟨some 17, _, _, _, _, _⟩) rfl rfl (fun w' => by go_simp <;> with_reducible rfl) ?_
     try simp only [pUt, pLt, pZt, pSt]
     refine wpPlan_pure (o := ⟨some 18, _, _, _, _, _⟩) rfl rfl (fun w' => by go_simp <;> with_reducible rfl) ?_
     try simp only [pUt, pLt, pZt, pSt]
     refine wpPlan_pure (o := ⟨some 19, _, _, _, _, _⟩) rfl rfl (fun w' => by go_simp <;> with_reducible rfl) ?_
     try simp only [pUt, pLt, pZt, pSt]
     refine wpPlan_take (o := ⟨some 20, _, _, _, _, _⟩) rfl rfl (fun w' ⟨p50_0, p51_0⟩ => by go_simp <;> with_reducible rfl) ?_
     try simp only [pUt, pLt, pZt, pSt]
     refine wpPlan_pure (o := ⟨some 21, _, _, _, _, _⟩) rfl rfl (fun w' => by go_simp <;> with_reducible rfl) ?_
     try simp only [pUt, pLt, pZt, pSt]
     refine wpPlan_pure (o := ⟨some 22, _, _, _, _, _⟩) rfl rfl (fun w' => by go_simp <;> with_reducible rfl) ?_
     try simp only [pUt, pLt, pZt, pSt]
     refine wpPlan_pure (o := ⟨some 23, _, _, _, _, _⟩) rfl rfl (fun w' => by go_simp <;> with_reducible rfl) ?_
     try simp only [pUt, pLt, pZt, pSt]
     refine wpPlan_take (o := ⟨some 24, _, _, _, _, _⟩) rfl rfl (fun w' ⟨p50_0, p51_0⟩ => by go_simp <;> with_reducible rfl) ?_
     try simp only [pUt, pLt, pZt, pSt]
     refine wpPlan_call (o := ⟨some 25, _, _, _, _, _⟩) rfl rfl (fun K hK => ?_)
     go_simp
     with_reducible refine (sameVec_q ((HVX.out.nv).below (below_trans hB (below_trans (b := wr) Bz (by go_grown)))) ((HVY.out.nv).below (below_trans hB (below_trans (b := wr) Bz (by go_grown)))) hM hM' hxn hyn false HP).mono ?_
     rintro e w1 ⟨rfl, b1⟩
     replace b1 := below_trans (a := wr) (by go_grown) b1
     replace Bz := below_trans Bz b1
     clear b1
     clear p50_0 p51_0
     have p50_0 := (hnd.below (below_trans hB Bz)).c0 (u := .slice x.A x.n x.c) rfl
     have p51_0 := (hnd'.below (below_trans hB Bz)).c0 (u := .slice y.A y.n y.c) rfl
     refine hK.out _ _ ⟨p50_0, p51_0⟩ (fun _ => ?_)
     try simp only [pUt, pLt, pZt, pSt]
     clear hK K
     refine wpPlan_pure (o := ⟨some 26, _, _, _, _, _⟩) rfl rfl (fun w' => by go_simp <;> with_reducible rfl) ?_
     try simp only [pUt, pLt, pZt, pSt]
     refine wpPlan_done ?_
     go_wp2_with fail
     go_ret
     have hF := below_trans (c := w1) hB Bz
     obtain rfl : r = false := by rw [← hra.out]; exact all_no HZI.out HP.out
     exact ⟨rfl, below_trans (below_trans hB Bz) (by go_grown)⟩
    ·have HP := Lib.hid hp
     clear hp
     have Bz := Below.refl wr.heap.size wr
     have p50_0 := (hnd.below (below_trans hB Bz)).c0 (u := .slice x.A x.n x.c) rfl
     have p51_0 := (hnd'.below (below_trans hB Bz)).c0 (u := .slice y.A y.n y.c) rfl
     go_wp2_with fail
     (try simp only [List.append_eq, List.cons_append, List.nil_append])
     refine wp_region_plan (.pure 0 (.pure 1 (.pure 2 (.take 3 (.pure 4 (.pure 5 (.pure 6 (.take 7 (.only 8 (.pure 9 .done)))))))))) [] (fun w' => w'.cell? ⟨b, off + i, none⟩ = some (.slice x.A x.n x.c) ∧ w'.cell? ⟨b', off' + i, none⟩ = some (.slice y.A y.n y.c)) (by kernel_rfl) (by kernel_rfl) ⟨p50_0, p51_0⟩ ?_
     refine wpPlan_pure (o := ⟨some 17, _, _, _, _, _⟩) rfl rfl (fun w' => by go_simp <;> with_reducible rfl) ?_
     try simp only [pUt, pLt, pZt, pSt]
     refine wpPlan_pure (o := ⟨some 18, _, _, _, _, _⟩) rfl rfl (fun w' => by go_simp <;> with_reducible rfl) ?_
     try simp only [pUt, pLt, pZt, pSt]
     refine wpPlan_pure (o := ⟨some 19, _, _, _, _, _⟩) rfl rfl (fun w' => by go_simp <;> with_reducible rfl) ?_
     try simp only [pUt, pLt, pZt, pSt]
     refine wpPlan_take (o := ⟨some 20, _, _, _, _, _⟩) rfl rfl (fun w' ⟨p50_0, p51_0⟩ => by go_simp <;> with_reducible rfl) ?_
     try simp only [pUt, pLt, pZt, pSt]
     refine wpPlan_pure (o := ⟨some 21, _, _, _, _, _⟩) rfl rfl (fun w' => by go_simp <;> with_reducible rfl) ?_
     try simp only [pUt, pLt, pZt, pSt]
     refine wpPlan_pure (o := ⟨some 22, _, _, _, _, _⟩) rfl rfl (fun w' => by go_simp <;> with_reducible rfl) ?_
     try simp only [pUt, pLt, pZt, pSt]
     refine wpPlan_pure (o := ⟨some 23, _, _, _, _, _⟩) rfl rfl (fun w' => by go_simp <;> with_reducible rfl) ?_
     try simp only [pUt, pLt, pZt, pSt]
     refine wpPlan_take (o := ⟨some 24, _, _, _, _, _⟩) rfl rfl (fun w' ⟨p50_0, p51_0⟩ => by go_simp <;> with_reducible rfl) ?_
     try simp only [pUt, pLt, pZt, pSt]
     refine wpPlan_call (o := ⟨some 25, _, _, _, _, _⟩) rfl rfl (fun K hK => ?_)
     go_simp
     with_reducible refine (sameVec_q ((HVX.out.nv).below (below_trans hB (below_trans (b := wr) Bz (by go_grown)))) ((HVY.out.nv).below (below_trans hB (below_trans (b := wr) Bz (by go_grown)))) hM hM' hxn hyn true HP).mono ?_
     rintro e w1 ⟨rfl, b1⟩
     replace b1 := below_trans (a := wr) (by go_grown) b1
     replace Bz := below_trans Bz b1
     clear b1
     clear p50_0 p51_0
     have p50_0 := (hnd.below (below_trans hB Bz)).c0 (u := .slice x.A x.n x.c) rfl
     have p51_0 := (hnd'.below (below_trans hB Bz)).c0 (u := .slice y.A y.n y.c) rfl
     refine hK.out _ _ ⟨p50_0, p51_0⟩ (fun _ => ?_)
     try simp only [pUt, pLt, pZt, pSt]
     clear hK K
     refine wpPlan_pure (o := ⟨some 26, _, _, _, _, _⟩) rfl rfl (fun w' => by go_simp <;> with_reducible rfl) ?_
     try simp only [pUt, pLt, pZt, pSt]
     refine wpPlan_done ?_
     go_wp2_with fail
     go_roundg (n - (i + 1))
     case measure => have := HGK.out; omega
     case rel => exact ⟨i + 1, by omega, rfl, by go_num, below_trans (below_trans hB Bz) (by go_grown), take_all HD.out HZI.out HP.out⟩
   ·obtain rfl : i = n := by omega
    have i1 : ¬ (i : Int) < (i : Int) := by omega
    obtain rfl : r = true := by rw [← hra.out]; exact all_yes HZL.out HD.out
    go_wp2_with fail
    go_ret
    exact ⟨rfl, hB⟩
 ·have g0 : ((n : Int) != (n' : Int)) = true := by simp; omega
  obtain rfl : r = false := by rw [← hr.out]; exact decide_eq_false (fun e => hnn (by have e2 := congrArg List.length e; rw [List.length_map, List.length_map, HLN.out, HMN.out] at e2; exact e2))
  clear hr
  go_enter Tryz.func42, Tryz.ntmps42
  go_wp2_with fail
  go_ret
  exact ⟨rfl, Below.refl _ _⟩
end Go.Proofs.YtldcfmangolkoaaGreatDoor
namespace Go.Proofs.YtldcfmangolkoaaGreatDoor
open Go.RowKit Tw

theorem sl_litG {α : Type} {f : α → List Value} {k : Nat} {w : World} {b n : Nat} {cs : Array Value} {te : TypeId} {L : List α} (hk : ∀ x, (f x).length = k) (h : Bx w b cs te) (hcs : cs.toList = flat f L) (hl : L.length = n) : Sl f k w (some ⟨b, 0, none⟩) n n L := by
 subst hl
 refine ⟨rfl, by rw [flat_len hk], _, _, rfl, (fun h => (by cases h)), fun a ha j u hu => ?_⟩
 cases ha
 rw [add_off, Nat.zero_add]
 refine h.cell j u ?_
 rw [← hcs] at hu
 simpa using hu
theorem i64_all {L : List Int} (h : (L.all fun x => decide (-9223372036854775808 ≤ x) && decide (x ≤ 9223372036854775807)) = true) : ∀ x ∈ L, I64 x := fun x hx => by
 have h1 := List.all_eq_true.1 h x hx
 rw [Bool.and_eq_true, decide_eq_true_eq, decide_eq_true_eq] at h1
 exact h1
theorem cn_mk {w : World} {A : Option Addr} {n c M : Nat} {L : List Tm} (h1 : Sl Tm.cs 5 w A n c L) (h2 : OnT w L (fun _ => M)) (h3 : A = none → c = 0) : CN w ⟨A, n, c, L⟩ M := ⟨h1, h2, h3⟩
theorem cns_nil (w : World) (M : Nat) : ∀ u ∈ ([] : List Vc), CN w u M := fun u hu => by cases hu
theorem cns_cons {w : World} {v : Vc} {CL : List Vc} {M : Nat} (h : CN w v M) (hs : ∀ u ∈ CL, CN w u M) : ∀ u ∈ v :: CL, CN w u M := fun u hu => by
 rcases List.mem_cons.1 hu with rfl | hu
 ·exact h
 ·exact hs u hu
theorem cm_lit {w : World} {b n M : Nat} {cs : Array Value} {te : TypeId} (CL : List Vc) (h : Bx w b cs te) (hcs : cs.toList = flat Vc.cs CL) (hl : CL.length = n) (hs : ∀ u ∈ CL, CN w u M) (C : List (List (Int × Rat))) (hC : CL.map (fun v => prs v.L) = C) : CM w (some ⟨b, 0, none⟩) n n C M := ⟨CL, sl_litG Vc.cs_len h hcs hl, hs, hC⟩
theorem wtot_on {w : World} {L : List Tm} {M n : Nat} (h : OnT w L (fun _ => M)) (hn : L.length * M = n) : wtot (prs L) ≤ n := by
 have h1 := wtot_le (m := M) (L := prs L) fun x hx => by
  obtain ⟨t, ht, rfl⟩ := prs_mem hx
  exact (h t ht).2.2
 rwa [prs_len, hn] at h1
theorem wtot_lit {w : World} {M n : Nat} (L : List Tm) (P : List (Int × Rat)) (hp : prs L = P) (h : OnT w L (fun _ => M)) (hn : L.length * M = n) : wtot P ≤ n := by rw [← hp]; exact wtot_on h hn
theorem CM.dg {w : World} {A : Option Addr} {n c M k m : Nat} {C : List (List (Int × Rat))} (h : CM w A n c C M) (hk : (∀ x ∈ C, x.length ≤ k) ∧ k * M = m) : ∀ x ∈ C, x.length ≤ k ∧ wtot x ≤ m := fun x hx => by
 obtain ⟨CL, h1, h2, rfl⟩ := h
 refine ⟨hk.1 x hx, ?_⟩
 obtain ⟨v, hv, rfl⟩ := List.mem_map.1 hx
 refine Nat.le_trans (wtot_on (h2 v hv).2.1 rfl) ?_
 have h3 := hk.1 _ hx
 rw [prs_len] at h3
 rw [← hk.2]
 exact Nat.mul_le_mul_right _ h3
theorem CW.dotK {w : World} {A : Option Addr} {n c M WT N K : Nat} {C : List (List (Int × Rat))} {P : List (Int × Rat)} (h : CW w A n c C M) (hW : wtot P ≤ WT) (hN : P.length ≤ N) (hK : 1 + WT + N * (M + 1) ≤ K) : ∀ x ∈ C, sz (pdot (nrm P) x) ≤ K := fun x hx => by
 obtain ⟨CL, h1, h2, rfl⟩ := h
 obtain ⟨v, hv, rfl⟩ := List.mem_map.1 hx
 have h3 := pdot_tot (K := M + 1) (h2 v hv).getsz (nrm P)
 have h4 := wtot_nrm P
 have h5 := Nat.mul_le_mul_right (M + 1) (Nat.le_trans (nrm_len P) hN)
 omega
theorem turnT_rise {C : List (List (Int × Rat))} {m : Nat} : ∀ x ∈ turnT C m, Rise x := fun x hx => by
 obtain ⟨i, _, rfl⟩ := List.mem_map.1 hx
 exact (turn_nrm C _).rise
theorem turnC {w : World} {A : Option Addr} {n c m M : Nat} {C : List (List (Int × Rat))} (h : CW w A n c C M) (hC : ∀ x ∈ C, x.length ≤ 1000) (hM : M ≤ 18000) (hn : n ≤ 1000000) (hm : m ≤ 65536) (z : Int) (hz : z = (m : Int)) (hT : Hid (Tab w)) :
  Calls Tryz.prog 36 #[.slice A n c, .int .i64 z] w fun e w' => ∃ g, e = .returned (.tuple #[.slice (some ⟨g, 0, none⟩) m m, .int .i64 0]) ∧ CM w' (some ⟨g, 0, none⟩) m m (turnT C m) M ∧ Below w.heap.size w w' := by
 obtain ⟨CL, h1, h2, rfl⟩ := h
 subst hz
 refine (turnV_q h1 (Lib.hid fun v hv => ⟨h2 v hv, ?_⟩) hM hn hm hT).mono fun e w' k => ?_
 ·have h3 := hC _ (List.mem_map_of_mem (f := fun v : Vc => prs v.L) hv)
  have h4 := (h2 v hv).len
  omega
 ·obtain ⟨g, V, rfl, k1, k2, k3, k4⟩ := k
  exact ⟨g, rfl, ⟨V, k1, k2, k3⟩, k4⟩
theorem inverseW {w : World} {A : Option Addr} {n c : Nat} {L : List Int} (h : Sl ics 1 w A n c L) (hw : Hid (∀ x ∈ L, I64 x)) (hn : n ≤ 1000000) (hp : permL L = true) :
  Calls Tryz.prog 38 #[.slice A n c] w fun e w' => ∃ A' c', e = .returned (.tuple #[.slice A' n c', .int .i64 0]) ∧ Sl ics 1 w' A' n c' (invL L) ∧ Below w.heap.size w w' := by
 have hl := h.1
 refine (inverse_q h hw hn).mono fun e w' k => ?_
 rw [if_pos hp] at k
 obtain ⟨A', n', c', rfl, k1, _, k3⟩ := k
 have h3 := k1.1
 rw [show (invL L).length = L.length from invK_len L _] at h3
 obtain rfl : n' = n := by omega
 exact ⟨A', c', rfl, k1, k3⟩
theorem moveW {w : World} {A X : Option Addr} {n c nx cx M N : Nat} {L : List Int} {P : List (Int × Rat)} (h : Sl ics 1 w A n c L) (hw : Hid (∀ x ∈ L, I64 x)) (hn : n ≤ 1000000) (hp : permL L = true) (hx : GV w X nx cx P M) (hok : okM n (nrm P) = true) (hM : M ≤ 18000) (hnx : nx ≤ N ∧ N ≤ 1000000) (hT : Hid (Tab w)) :
  Calls Tryz.prog 40 #[.slice A n c, .slice X nx cx] w fun e w' => ∃ A' n' c', e = .returned (.tuple #[.slice A' n' c', .int .i64 0]) ∧ NV w' A' n' c' (nrm (movF L (nrm P))) (M + 1) ∧ n' ≤ N ∧ Below w.heap.size w w' := by
 have hl := hx.len
 refine (move_yes h hw hn hp hx hM (by omega) hT).mono fun e w' k => ?_
 unfold TellsMv at k
 rw [if_pos hok] at k
 obtain ⟨A', n', c', rfl, k1, k2⟩ := k
 refine ⟨A', n', c', rfl, k1, ?_, k2⟩
 have h1 := k1.len
 have h2 := nrm_len (movF L (nrm P))
 have h3 := nrm_len P
 have h4 : (movF L (nrm P)).length = (nrm P).length := List.length_map _
 omega
def TellsT6 (w : World) (at_ : Int) (q : Rat) (e : Ending) (w' : World) : Prop := ∃ s A c l s' A' c' l', e = .returned (.agg #[.int .i64 at_, .bool s, .slice A l c, .bool s', .slice A' l' c']) ∧ RN w' s A c l s' A' c' l' q ∧ Below w.heap.size w w'
set_option maxRecDepth 100000 in
set_option maxHeartbeats 4000000 in
theorem term6_q {w : World} (at_ n : Int) (hn : Hid (-9223372036854775808 ≤ n ∧ n ≤ 9223372036854775807)) (hT : Hid (Tab w)) :
  Calls Tryz.prog 97 #[.int .i64 at_, .int .i64 n] w (TellsT6 w at_ (qof n 1)) := by
 obtain ⟨W, hW, x0, hB⟩ := boxes1 w #[.int .i64 0, .bool false, .slice none 0 0, .bool false, .slice none 0 0] 118
 have HX0 := Lib.hid x0
 clear x0
 have Bz := Below.refl W.heap.size W
 go_enter Tryz.func97, Tryz.ntmps97
 go_wp2_with fail
 rw [← hW]
 clear hW
 go_wp2_with fail
 with_reducible refine (of_q n 1 hn (Lib.hid (by omega)) (Lib.hid (Tab.below hT.out (below_trans hB (below_trans (b := W) Bz (by go_grown)))))).mono ?_
 rintro e w1 ⟨s1, A1, c1, l1, s1r, A1r, c1r, l1r, rfl, h1, b1⟩
 replace b1 := below_trans (a := W) (by go_grown) b1
 replace Bz := below_trans Bz b1
 clear b1
 have p0_0 := (HX0.out.below Bz).cell 0 (.int .i64 0) rfl
 have p0_1 := (HX0.out.below Bz).cell 1 (.bool false) rfl
 have p0_2 := (HX0.out.below Bz).cell 2 (.slice none 0 0) rfl
 have p0_3 := (HX0.out.below Bz).cell 3 (.bool false) rfl
 have p0_4 := (HX0.out.below Bz).cell 4 (.slice none 0 0) rfl
 have f0_0 := (HX0.out.below Bz).frozen 0
 have f0_1 := (HX0.out.below Bz).frozen 1
 have f0_2 := (HX0.out.below Bz).frozen 2
 have f0_3 := (HX0.out.below Bz).frozen 3
 have f0_4 := (HX0.out.below Bz).frozen 4
 have y0 := (HX0.out.below Bz).lt
 go_wp2_with fail
 (try simp only [Exit.inBlock, Exit.then])
 refine bodyPost_ret (by simp [results, Tryz.results97, go_sem, p0_0, p0_1, p0_2, p0_3, p0_4]; try rfl) rfl ?_
 obtain ⟨V1, hW, x, kk, far, bel⟩ := store5 (.int .i64 at_) (.bool s1) (.slice A1 l1 c1) (.bool s1r) (.slice A1r l1r c1r) (HX0.out.below Bz) (fun _ e => by cases e) (fun _ e => by cases e) (fun _ e => by cases e) (fun _ e => by cases e) (fun _ e => by cases e)
 rw [← hW]
 clear hW
 replace h1 := h1.k kk
 replace hB := bel w.heap.size w (by omega) (below_trans hB Bz)
 replace HX0 := Lib.hid x
 clear x kk far bel Bz
 have Bz := Below.refl V1.heap.size V1
 have hF := below_trans (c := V1) hB Bz
 exact ⟨_, _, _, _, _, _, _, _, rfl, RN.below h1 (by go_grown), below_trans hF (by go_grown)⟩
abbrev colsP : List (List (Int × Rat)) := [[(0, qof (1) 1), (1, qof (2) 1)], [(1, qof (3) 1)]]
theorem colsP_rise : ∀ x ∈ colsP, Rise x := fun x hx => by
 have h : (colsP.all fun c => decide (c.Pairwise fun x y => x.1 < y.1)) = true := by decide +kernel
 exact (of_decide_eq_true (List.all_eq_true.1 h x hx) : x.Pairwise fun x y => x.1 < y.1)
set_option maxRecDepth 100000 in
set_option maxHeartbeats 4000000 in
theorem cols_q {w : World} (hT : Hid (Tab w)) : Calls Tryz.prog 96 #[] w fun e w' => ∃ A c, e = .returned (.slice A 2 c) ∧ CM w' A 2 c colsP 2 ∧ Below w.heap.size w w' := by
 have hB := Below.refl w.heap.size w
 have Bz := Below.refl w.heap.size w
 go_enter Tryz.func96, Tryz.ntmps96
 go_wp2_with fail
 with_reducible refine (term6_q (0) (1) (Lib.hid (by omega)) (Lib.hid (Tab.below hT.out (below_trans hB (below_trans (b := w) Bz (by go_grown)))))).mono ?_
 rintro e w1 ⟨s1, A1, c1, l1, s1r, A1r, c1r, l1r, rfl, h1, b1⟩
 replace b1 := below_trans (a := w) (by go_grown) b1
 replace Bz := below_trans Bz b1
 clear b1
 go_wp2_with fail
 with_reducible refine (term6_q (1) (2) (Lib.hid (by omega)) (Lib.hid (Tab.below hT.out (below_trans hB (below_trans (b := w1) Bz (by go_grown)))))).mono ?_
 rintro e w2 ⟨s2, A2, c2, l2, s2r, A2r, c2r, l2r, rfl, h2, b2⟩
 replace b2 := below_trans (a := w1) (by go_grown) b2
 replace h1 := h1.below b2
 replace Bz := below_trans Bz b2
 clear b2
 go_wp2_with fail
 obtain ⟨V1, hW, x0, hN⟩ := boxes1 w2 #[.int .i64 0, .bool s1, .slice A1 l1 c1, .bool s1r, .slice A1r l1r c1r, .int .i64 1, .bool s2, .slice A2 l2 c2, .bool s2r, .slice A2r l2r c2r] 118
 rw [← hW]
 clear hW
 obtain ⟨v0, hb0⟩ : ∃ b, b = w2.heap.size := ⟨_, rfl⟩
 rw [← hb0] at x0 ⊢
 have ow_0 : w.heap.size ≤ v0 := by have := hB.size; have := Bz.size; omega
 replace h1 := h1.below hN
 replace h2 := h2.below hN
 replace hB := below_trans (below_trans hB Bz) hN
 have HX0 := Lib.hid x0
 clear x0 hN Bz hb0
 have Bz := Below.refl V1.heap.size V1
 with_reducible refine (term6_q (1) (3) (Lib.hid (by omega)) (Lib.hid (Tab.below hT.out (below_trans hB (below_trans (b := V1) Bz (by go_grown)))))).mono ?_
 rintro e w3 ⟨s3, A3, c3, l3, s3r, A3r, c3r, l3r, rfl, h3, b3⟩
 replace b3 := below_trans (a := V1) (by go_grown) b3
 replace h1 := h1.below b3
 replace h2 := h2.below b3
 replace Bz := below_trans Bz b3
 clear b3
 go_wp2_with fail
 obtain ⟨V2, hW, x1, hN⟩ := boxes1 w3 #[.int .i64 1, .bool s3, .slice A3 l3 c3, .bool s3r, .slice A3r l3r c3r] 118
 have hs1 : V2.heap.size = w3.heap.size + 1 := by rw [hW]; simp
 rw [← hW]
 clear hW
 obtain ⟨v1, hb1⟩ : ∃ b, b = w3.heap.size := ⟨_, rfl⟩
 rw [← hb1] at x1 hs1 ⊢
 have o0_1 : v0 < v1 := by have := (HX0.out.below Bz).lt; omega
 have ow_1 : w.heap.size ≤ v1 := by have := hB.size; have := Bz.size; omega
 replace h1 := h1.below hN
 replace h2 := h2.below hN
 replace h3 := h3.below hN
 replace hB := below_trans (below_trans hB Bz) hN
 replace HX0 := Lib.hid ((HX0.out.below Bz).below hN)
 have HX1 := Lib.hid x1
 clear x1 hN Bz hb1
 have Bz := Below.refl V2.heap.size V2
 obtain ⟨V3, hW, x2, hN⟩ := boxes1 V2 #[.slice (some ⟨v0, 0, none⟩) 2 2, .slice (some ⟨v1, 0, none⟩) 1 1] 47
 have hs2 : V3.heap.size = V2.heap.size + 1 := by rw [hW]; simp
 rw [← hW]
 clear hW
 rw [hs1] at x2 hs2
 obtain ⟨v2, hb2⟩ : ∃ b, b = v1 + 1 := ⟨_, rfl⟩
 rw [← hb2] at x2 hs2  ⊢
 have o0_2 : v0 < v2 := by have := (HX0.out.below Bz).lt; omega
 have o1_2 : v1 < v2 := by have := (HX1.out.below Bz).lt; omega
 have ow_2 : w.heap.size ≤ v2 := by have := hB.size; have := Bz.size; omega
 replace h1 := h1.below hN
 replace h2 := h2.below hN
 replace h3 := h3.below hN
 replace hB := below_trans (below_trans hB Bz) hN
 replace HX0 := Lib.hid ((HX0.out.below Bz).below hN)
 replace HX1 := Lib.hid ((HX1.out.below Bz).below hN)
 have HX2 := Lib.hid x2
 clear x2 hN Bz hb2
 have Bz := Below.refl V3.heap.size V3
 clear hs1
 go_ret
 have hF := below_trans (c := V3) hB Bz
 exact ⟨_, _, rfl, (cm_lit (n := 2) (M := 2) [⟨some ⟨v0, 0, none⟩, 2, 2, [⟨0, ⟨s1, A1, c1, l1, s1r, A1r, c1r, l1r, qof (1) 1, true⟩⟩, ⟨1, ⟨s2, A2, c2, l2, s2r, A2r, c2r, l2r, qof (2) 1, true⟩⟩]⟩, ⟨some ⟨v1, 0, none⟩, 1, 1, [⟨1, ⟨s3, A3, c3, l3, s3r, A3r, c3r, l3r, qof (3) 1, true⟩⟩]⟩] (HX2.out.below (below_trans Bz (by go_grown))) rfl rfl (cns_cons (v := ⟨some ⟨v0, 0, none⟩, 2, 2, [⟨0, ⟨s1, A1, c1, l1, s1r, A1r, c1r, l1r, qof (1) 1, true⟩⟩, ⟨1, ⟨s2, A2, c2, l2, s2r, A2r, c2r, l2r, qof (2) 1, true⟩⟩]⟩) (cn_mk (sl_lit (HX0.out.below (below_trans Bz (by go_grown))) rfl rfl) (OnT.c 0 (RN.below h1 (by go_grown)) (sz_one (by decide) (by decide) (by decide)) (OnT.c 1 (RN.below h2 (by go_grown)) (sz_one (by decide) (by decide) (by decide)) (OnT.nil _ _))) (fun h => (by cases h))) (cns_cons (v := ⟨some ⟨v1, 0, none⟩, 1, 1, [⟨1, ⟨s3, A3, c3, l3, s3r, A3r, c3r, l3r, qof (3) 1, true⟩⟩]⟩) (cn_mk (sl_lit (HX1.out.below (below_trans Bz (by go_grown))) rfl rfl) (OnT.c 1 (RN.below h3 (by go_grown)) (sz_one (by decide) (by decide) (by decide)) (OnT.nil _ _)) (fun h => (by cases h))) (cns_nil _ _))) [[(0, qof (1) 1), (1, qof (2) 1)], [(1, qof (3) 1)]] rfl), below_trans hF (by go_grown)⟩
set_option maxRecDepth 100000 in
set_option maxHeartbeats 8000000 in
theorem awake6_q {w : World} (hT : Hid (Tab w)) : Calls Tryz.prog 32 #[] w fun e w' => e = .returned (.bool true) ∧ Below w.heap.size w w' := by
 have hB := Below.refl w.heap.size w
 have Bz := Below.refl w.heap.size w
 go_enter Tryz.func32, Tryz.ntmps32
 go_wp2_with fail
 with_reducible refine (cols_q (Lib.hid (Tab.below hT.out (below_trans hB (below_trans (b := w) Bz (by go_grown)))))).mono ?_
 rintro e w1 ⟨A1, c1, rfl, h1, b1⟩
 replace b1 := below_trans (a := w) (by go_grown) b1
 replace Bz := below_trans Bz b1
 clear b1
 go_wp2_with fail
 with_reducible refine (term6_q (0) (1) (Lib.hid (by omega)) (Lib.hid (Tab.below hT.out (below_trans hB (below_trans (b := w1) Bz (by go_grown)))))).mono ?_
 rintro e w2 ⟨s2, A2, c2, l2, s2r, A2r, c2r, l2r, rfl, h2, b2⟩
 replace b2 := below_trans (a := w1) (by go_grown) b2
 replace h1 := h1.below b2
 replace Bz := below_trans Bz b2
 clear b2
 go_wp2_with fail
 with_reducible refine (term6_q (1) (1) (Lib.hid (by omega)) (Lib.hid (Tab.below hT.out (below_trans hB (below_trans (b := w2) Bz (by go_grown)))))).mono ?_
 rintro e w3 ⟨s3, A3, c3, l3, s3r, A3r, c3r, l3r, rfl, h3, b3⟩
 replace b3 := below_trans (a := w2) (by go_grown) b3
 replace h1 := h1.below b3
 replace h2 := h2.below b3
 replace Bz := below_trans Bz b3
 clear b3
 go_wp2_with fail
 obtain ⟨V1, hW, x0, hN⟩ := boxes1 w3 #[.int .i64 0, .bool s2, .slice A2 l2 c2, .bool s2r, .slice A2r l2r c2r, .int .i64 1, .bool s3, .slice A3 l3 c3, .bool s3r, .slice A3r l3r c3r] 118
 rw [← hW]
 clear hW
 obtain ⟨v0, hb0⟩ : ∃ b, b = w3.heap.size := ⟨_, rfl⟩
 rw [← hb0] at x0 ⊢
 have ow_0 : w.heap.size ≤ v0 := by have := hB.size; have := Bz.size; omega
 replace h1 := h1.below hN
 replace h2 := h2.below hN
 replace h3 := h3.below hN
 replace hB := below_trans (below_trans hB Bz) hN
 have HX0 := Lib.hid x0
 clear x0 hN Bz hb0
 have Bz := Below.refl V1.heap.size V1
 with_reducible refine (timesW 6 3 2 4 2 4 16 4 (CM.cw (CM.below h1 (by go_grown)) colsP_rise) (gv_lit (n := 2) [⟨0, ⟨s2, A2, c2, l2, s2r, A2r, c2r, l2r, qof (1) 1, true⟩⟩, ⟨1, ⟨s3, A3, c3, l3, s3r, A3r, c3r, l3r, qof (1) 1, true⟩⟩] [(0, qof (1) 1), (1, qof (1) 1)] rfl (HX0.out.below (below_trans Bz (by go_grown))) rfl rfl (OnT.c 0 (RN.below h2 (by go_grown)) (sz_one (by decide) (by decide) (by decide)) (OnT.c 1 (RN.below h3 (by go_grown)) (sz_one (by decide) (by decide) (by decide)) (OnT.nil _ _)))) (CM.dg (CM.below h1 (by go_grown)) (by decide)) (by decide) (wtot_lit (n := 4) [⟨0, ⟨s2, A2, c2, l2, s2r, A2r, c2r, l2r, qof (1) 1, true⟩⟩, ⟨1, ⟨s3, A3, c3, l3, s3r, A3r, c3r, l3r, qof (1) 1, true⟩⟩] [(0, qof (1) 1), (1, qof (1) 1)] rfl (OnT.c 0 (RN.below h2 (by go_grown)) (sz_one (by decide) (by decide) (by decide)) (OnT.c 1 (RN.below h3 (by go_grown)) (sz_one (by decide) (by decide) (by decide)) (OnT.nil _ _))) rfl) (by decide) (by decide) (by decide) (by decide) (by decide) (by decide) (by decide) (by decide) (Lib.hid (Tab.below hT.out (below_trans hB (below_trans (b := V1) Bz (by go_grown)))))).mono ?_
 rintro e w4 ⟨A4, n4, c4, rfl, h4, l4, b4⟩
 replace b4 := below_trans (a := V1) (by go_grown) b4
 replace Bz := below_trans Bz b4
 clear b4
 go_wp2_with fail
 with_reducible refine (term6_q (1) (1) (Lib.hid (by omega)) (Lib.hid (Tab.below hT.out (below_trans hB (below_trans (b := w4) Bz (by go_grown)))))).mono ?_
 rintro e w5 ⟨s5, A5, c5, l5, s5r, A5r, c5r, l5r, rfl, h5, b5⟩
 replace b5 := below_trans (a := w4) (by go_grown) b5
 replace h4 := h4.below b5
 replace Bz := below_trans Bz b5
 clear b5
 go_wp2_with fail
 obtain ⟨V2, hW, x1, hN⟩ := boxes1 w5 #[.int .i64 1, .bool s5, .slice A5 l5 c5, .bool s5r, .slice A5r l5r c5r] 118
 rw [← hW]
 clear hW
 obtain ⟨v1, hb1⟩ : ∃ b, b = w5.heap.size := ⟨_, rfl⟩
 rw [← hb1] at x1 ⊢
 have o0_1 : v0 < v1 := by have := (HX0.out.below Bz).lt; omega
 have ow_1 : w.heap.size ≤ v1 := by have := hB.size; have := Bz.size; omega
 replace h5 := h5.below hN
 replace h4 := h4.below hN
 replace hB := below_trans (below_trans hB Bz) hN
 replace HX0 := Lib.hid ((HX0.out.below Bz).below hN)
 have HX1 := Lib.hid x1
 clear x1 hN Bz hb1
 have Bz := Below.refl V2.heap.size V2
 with_reducible refine (cols_q (Lib.hid (Tab.below hT.out (below_trans hB (below_trans (b := V2) Bz (by go_grown)))))).mono ?_
 rintro e w6 ⟨A6, c6, rfl, h6, b6⟩
 replace b6 := below_trans (a := V2) (by go_grown) b6
 replace h5 := h5.below b6
 replace h4 := h4.below b6
 replace Bz := below_trans Bz b6
 clear b6
 go_wp2_with fail
 with_reducible refine (leftC 3 3 1 7 2 (gv_lit (n := 1) [⟨1, ⟨s5, A5, c5, l5, s5r, A5r, c5r, l5r, qof (1) 1, true⟩⟩] [(1, qof (1) 1)] rfl (HX1.out.below (below_trans Bz (by go_grown))) rfl rfl (OnT.c 1 (RN.below h5 (by go_grown)) (sz_one (by decide) (by decide) (by decide)) (OnT.nil _ _))) (CM.cw (CM.below h6 (by go_grown)) colsP_rise) (by decide) (by decide) (by decide) (by decide) (CW.dotK (WT := 2) (N := 1) (CM.cw (CM.below h6 (by go_grown)) colsP_rise) (wtot_lit (n := 2) [⟨1, ⟨s5, A5, c5, l5, s5r, A5r, c5r, l5r, qof (1) 1, true⟩⟩] [(1, qof (1) 1)] rfl (OnT.c 1 (RN.below h5 (by go_grown)) (sz_one (by decide) (by decide) (by decide)) (OnT.nil _ _)) rfl) (by decide) (by decide)) (by decide) (by decide) (by decide) (by decide) (by decide) (by decide) (Lib.hid (Tab.below hT.out (below_trans hB (below_trans (b := w6) Bz (by go_grown)))))).mono ?_
 rintro e w7 ⟨A7, n7, c7, rfl, h7, l7, b7⟩
 replace b7 := below_trans (a := w6) (by go_grown) b7
 replace h4 := h4.below b7
 replace Bz := below_trans Bz b7
 clear b7
 go_wp2_with fail
 with_reducible refine (cols_q (Lib.hid (Tab.below hT.out (below_trans hB (below_trans (b := w7) Bz (by go_grown)))))).mono ?_
 rintro e w8 ⟨A8, c8, rfl, h8, b8⟩
 replace b8 := below_trans (a := w7) (by go_grown) b8
 replace h4 := h4.below b8
 replace h7 := h7.below b8
 replace Bz := below_trans Bz b8
 clear b8
 go_wp2_with fail
 with_reducible refine (turnC (m := 2) (CM.cw (CM.below h8 (by go_grown)) colsP_rise) (by decide) (by decide) (by decide) (by decide) 2 rfl (Lib.hid (Tab.below hT.out (below_trans hB (below_trans (b := w8) Bz (by go_grown)))))).mono ?_
 rintro e w9 ⟨g9, rfl, h9, b9⟩
 replace b9 := below_trans (a := w8) (by go_grown) b9
 replace h4 := h4.below b9
 replace h7 := h7.below b9
 replace Bz := below_trans Bz b9
 clear b9
 go_wp2_with fail
 obtain ⟨V3, hW, x2, hN⟩ := boxes1 w9 #[.int .i64 2, .int .i64 0, .int .i64 1] 3
 rw [← hW]
 clear hW
 obtain ⟨v2, hb2⟩ : ∃ b, b = w9.heap.size := ⟨_, rfl⟩
 rw [← hb2] at x2 ⊢
 have o0_2 : v0 < v2 := by have := (HX0.out.below Bz).lt; omega
 have o1_2 : v1 < v2 := by have := (HX1.out.below Bz).lt; omega
 have ow_2 : w.heap.size ≤ v2 := by have := hB.size; have := Bz.size; omega
 replace h9 := h9.below hN
 replace h4 := h4.below hN
 replace h7 := h7.below hN
 replace hB := below_trans (below_trans hB Bz) hN
 replace HX0 := Lib.hid ((HX0.out.below Bz).below hN)
 replace HX1 := Lib.hid ((HX1.out.below Bz).below hN)
 have HX2 := Lib.hid x2
 clear x2 hN Bz hb2
 have Bz := Below.refl V3.heap.size V3
 with_reducible refine (inverseW (sl_litG (L := [2, 0, 1]) (n := 3) ics_len (HX2.out.below (below_trans Bz (by go_grown))) rfl rfl) (Lib.hid (i64_all (by decide))) (by decide) (by decide)).mono ?_
 rintro e w10 ⟨A10, c10, rfl, h10, b10⟩
 replace b10 := below_trans (a := V3) (by go_grown) b10
 replace h9 := h9.below b10
 replace h4 := h4.below b10
 replace h7 := h7.below b10
 replace Bz := below_trans Bz b10
 clear b10
 go_wp2_with fail
 obtain ⟨V4, hW, x3, hN⟩ := boxes1 w10 #[.int .i64 2, .int .i64 0, .int .i64 1] 3
 rw [← hW]
 clear hW
 obtain ⟨v3, hb3⟩ : ∃ b, b = w10.heap.size := ⟨_, rfl⟩
 rw [← hb3] at x3 ⊢
 have o0_3 : v0 < v3 := by have := (HX0.out.below Bz).lt; omega
 have o1_3 : v1 < v3 := by have := (HX1.out.below Bz).lt; omega
 have o2_3 : v2 < v3 := by have := (HX2.out.below Bz).lt; omega
 have ow_3 : w.heap.size ≤ v3 := by have := hB.size; have := Bz.size; omega
 replace h9 := h9.below hN
 replace h10 := h10.below hN
 replace h4 := h4.below hN
 replace h7 := h7.below hN
 replace hB := below_trans (below_trans hB Bz) hN
 replace HX0 := Lib.hid ((HX0.out.below Bz).below hN)
 replace HX1 := Lib.hid ((HX1.out.below Bz).below hN)
 replace HX2 := Lib.hid ((HX2.out.below Bz).below hN)
 have HX3 := Lib.hid x3
 clear x3 hN Bz hb3
 have Bz := Below.refl V4.heap.size V4
 with_reducible refine (term6_q (0) (5) (Lib.hid (by omega)) (Lib.hid (Tab.below hT.out (below_trans hB (below_trans (b := V4) Bz (by go_grown)))))).mono ?_
 rintro e w11 ⟨s11, A11, c11, l11, s11r, A11r, c11r, l11r, rfl, h11, b11⟩
 replace b11 := below_trans (a := V4) (by go_grown) b11
 replace h9 := h9.below b11
 replace h10 := h10.below b11
 replace h4 := h4.below b11
 replace h7 := h7.below b11
 replace Bz := below_trans Bz b11
 clear b11
 go_wp2_with fail
 obtain ⟨V5, hW, x4, hN⟩ := boxes1 w11 #[.int .i64 0, .bool s11, .slice A11 l11 c11, .bool s11r, .slice A11r l11r c11r] 118
 rw [← hW]
 clear hW
 obtain ⟨v4, hb4⟩ : ∃ b, b = w11.heap.size := ⟨_, rfl⟩
 rw [← hb4] at x4 ⊢
 have o0_4 : v0 < v4 := by have := (HX0.out.below Bz).lt; omega
 have o1_4 : v1 < v4 := by have := (HX1.out.below Bz).lt; omega
 have o2_4 : v2 < v4 := by have := (HX2.out.below Bz).lt; omega
 have o3_4 : v3 < v4 := by have := (HX3.out.below Bz).lt; omega
 have ow_4 : w.heap.size ≤ v4 := by have := hB.size; have := Bz.size; omega
 replace h9 := h9.below hN
 replace h10 := h10.below hN
 replace h11 := h11.below hN
 replace h4 := h4.below hN
 replace h7 := h7.below hN
 replace hB := below_trans (below_trans hB Bz) hN
 replace HX0 := Lib.hid ((HX0.out.below Bz).below hN)
 replace HX1 := Lib.hid ((HX1.out.below Bz).below hN)
 replace HX2 := Lib.hid ((HX2.out.below Bz).below hN)
 replace HX3 := Lib.hid ((HX3.out.below Bz).below hN)
 have HX4 := Lib.hid x4
 clear x4 hN Bz hb4
 have Bz := Below.refl V5.heap.size V5
 with_reducible refine (moveW (N := 1) (sl_litG (L := [2, 0, 1]) (n := 3) ics_len (HX3.out.below (below_trans Bz (by go_grown))) rfl rfl) (Lib.hid (i64_all (by decide))) (by decide) (by decide) (gv_lit (n := 1) [⟨0, ⟨s11, A11, c11, l11, s11r, A11r, c11r, l11r, qof (5) 1, true⟩⟩] [(0, qof (5) 1)] rfl (HX4.out.below (below_trans Bz (by go_grown))) rfl rfl (OnT.c 0 (RN.below h11 (by go_grown)) (sz_one (by decide) (by decide) (by decide)) (OnT.nil _ _))) (by decide +kernel) (by decide) (by decide) (Lib.hid (Tab.below hT.out (below_trans hB (below_trans (b := V5) Bz (by go_grown)))))).mono ?_
 rintro e w12 ⟨A12, n12, c12, rfl, h12, l12, b12⟩
 replace b12 := below_trans (a := V5) (by go_grown) b12
 replace h9 := h9.below b12
 replace h10 := h10.below b12
 replace h4 := h4.below b12
 replace h7 := h7.below b12
 replace Bz := below_trans Bz b12
 clear b12
 go_wp2_with fail
 with_reducible refine (term6_q (0) (1) (Lib.hid (by omega)) (Lib.hid (Tab.below hT.out (below_trans hB (below_trans (b := w12) Bz (by go_grown)))))).mono ?_
 rintro e w13 ⟨s13, A13, c13, l13, s13r, A13r, c13r, l13r, rfl, h13, b13⟩
 replace b13 := below_trans (a := w12) (by go_grown) b13
 replace h9 := h9.below b13
 replace h10 := h10.below b13
 replace h12 := h12.below b13
 replace h4 := h4.below b13
 replace h7 := h7.below b13
 replace Bz := below_trans Bz b13
 clear b13
 go_wp2_with fail
 with_reducible refine (term6_q (1) (5) (Lib.hid (by omega)) (Lib.hid (Tab.below hT.out (below_trans hB (below_trans (b := w13) Bz (by go_grown)))))).mono ?_
 rintro e w14 ⟨s14, A14, c14, l14, s14r, A14r, c14r, l14r, rfl, h14, b14⟩
 replace b14 := below_trans (a := w13) (by go_grown) b14
 replace h9 := h9.below b14
 replace h10 := h10.below b14
 replace h13 := h13.below b14
 replace h12 := h12.below b14
 replace h4 := h4.below b14
 replace h7 := h7.below b14
 replace Bz := below_trans Bz b14
 clear b14
 go_wp2_with fail
 obtain ⟨V6, hW, x5, hN⟩ := boxes1 w14 #[.int .i64 0, .bool s13, .slice A13 l13 c13, .bool s13r, .slice A13r l13r c13r, .int .i64 1, .bool s14, .slice A14 l14 c14, .bool s14r, .slice A14r l14r c14r] 118
 rw [← hW]
 clear hW
 obtain ⟨v5, hb5⟩ : ∃ b, b = w14.heap.size := ⟨_, rfl⟩
 rw [← hb5] at x5 ⊢
 have o0_5 : v0 < v5 := by have := (HX0.out.below Bz).lt; omega
 have o1_5 : v1 < v5 := by have := (HX1.out.below Bz).lt; omega
 have o2_5 : v2 < v5 := by have := (HX2.out.below Bz).lt; omega
 have o3_5 : v3 < v5 := by have := (HX3.out.below Bz).lt; omega
 have o4_5 : v4 < v5 := by have := (HX4.out.below Bz).lt; omega
 have ow_5 : w.heap.size ≤ v5 := by have := hB.size; have := Bz.size; omega
 replace h9 := h9.below hN
 replace h10 := h10.below hN
 replace h13 := h13.below hN
 replace h14 := h14.below hN
 replace h12 := h12.below hN
 replace h4 := h4.below hN
 replace h7 := h7.below hN
 replace hB := below_trans (below_trans hB Bz) hN
 replace HX0 := Lib.hid ((HX0.out.below Bz).below hN)
 replace HX1 := Lib.hid ((HX1.out.below Bz).below hN)
 replace HX2 := Lib.hid ((HX2.out.below Bz).below hN)
 replace HX3 := Lib.hid ((HX3.out.below Bz).below hN)
 replace HX4 := Lib.hid ((HX4.out.below Bz).below hN)
 have HX5 := Lib.hid x5
 clear x5 hN Bz hb5
 have Bz := Below.refl V6.heap.size V6
 with_reducible refine (sameVec_q (P := nrm (timesP colsP (nrm [(0, qof (1) 1), (1, qof (1) 1)]))) (Q := [(0, qof (1) 1), (1, qof (5) 1)]) (NV.below h4 (by go_grown)) (nv_lit (n := 2) [⟨0, ⟨s13, A13, c13, l13, s13r, A13r, c13r, l13r, qof (1) 1, true⟩⟩, ⟨1, ⟨s14, A14, c14, l14, s14r, A14r, c14r, l14r, qof (5) 1, true⟩⟩] [(0, qof (1) 1), (1, qof (5) 1)] rfl (HX5.out.below (below_trans Bz (by go_grown))) rfl rfl (OnT.c 0 (RN.below h13 (by go_grown)) (sz_one (by decide) (by decide) (by decide)) (OnT.c 1 (RN.below h14 (by go_grown)) (sz_one (by decide) (by decide) (by decide)) (OnT.nil _ _)))) (by decide) (by decide) (by omega) (by omega) true (Lib.hid (by decide +kernel))).mono ?_
 rintro e w15 ⟨rfl, b15⟩
 replace b15 := below_trans (a := V6) (by go_grown) b15
 replace h9 := h9.below b15
 replace h10 := h10.below b15
 replace h12 := h12.below b15
 replace h7 := h7.below b15
 replace Bz := below_trans Bz b15
 clear b15
 go_wp2_with fail
 with_reducible refine (term6_q (0) (2) (Lib.hid (by omega)) (Lib.hid (Tab.below hT.out (below_trans hB (below_trans (b := w15) Bz (by go_grown)))))).mono ?_
 rintro e w16 ⟨s16, A16, c16, l16, s16r, A16r, c16r, l16r, rfl, h16, b16⟩
 replace b16 := below_trans (a := w15) (by go_grown) b16
 replace h9 := h9.below b16
 replace h10 := h10.below b16
 replace h12 := h12.below b16
 replace h7 := h7.below b16
 replace Bz := below_trans Bz b16
 clear b16
 go_wp2_with fail
 with_reducible refine (term6_q (1) (3) (Lib.hid (by omega)) (Lib.hid (Tab.below hT.out (below_trans hB (below_trans (b := w16) Bz (by go_grown)))))).mono ?_
 rintro e w17 ⟨s17, A17, c17, l17, s17r, A17r, c17r, l17r, rfl, h17, b17⟩
 replace b17 := below_trans (a := w16) (by go_grown) b17
 replace h9 := h9.below b17
 replace h10 := h10.below b17
 replace h16 := h16.below b17
 replace h12 := h12.below b17
 replace h7 := h7.below b17
 replace Bz := below_trans Bz b17
 clear b17
 go_wp2_with fail
 obtain ⟨V7, hW, x6, hN⟩ := boxes1 w17 #[.int .i64 0, .bool s16, .slice A16 l16 c16, .bool s16r, .slice A16r l16r c16r, .int .i64 1, .bool s17, .slice A17 l17 c17, .bool s17r, .slice A17r l17r c17r] 118
 rw [← hW]
 clear hW
 obtain ⟨v6, hb6⟩ : ∃ b, b = w17.heap.size := ⟨_, rfl⟩
 rw [← hb6] at x6 ⊢
 have o0_6 : v0 < v6 := by have := (HX0.out.below Bz).lt; omega
 have o1_6 : v1 < v6 := by have := (HX1.out.below Bz).lt; omega
 have o2_6 : v2 < v6 := by have := (HX2.out.below Bz).lt; omega
 have o3_6 : v3 < v6 := by have := (HX3.out.below Bz).lt; omega
 have o4_6 : v4 < v6 := by have := (HX4.out.below Bz).lt; omega
 have o5_6 : v5 < v6 := by have := (HX5.out.below Bz).lt; omega
 have ow_6 : w.heap.size ≤ v6 := by have := hB.size; have := Bz.size; omega
 replace h9 := h9.below hN
 replace h10 := h10.below hN
 replace h16 := h16.below hN
 replace h17 := h17.below hN
 replace h12 := h12.below hN
 replace h7 := h7.below hN
 replace hB := below_trans (below_trans hB Bz) hN
 replace HX0 := Lib.hid ((HX0.out.below Bz).below hN)
 replace HX1 := Lib.hid ((HX1.out.below Bz).below hN)
 replace HX2 := Lib.hid ((HX2.out.below Bz).below hN)
 replace HX3 := Lib.hid ((HX3.out.below Bz).below hN)
 replace HX4 := Lib.hid ((HX4.out.below Bz).below hN)
 replace HX5 := Lib.hid ((HX5.out.below Bz).below hN)
 have HX6 := Lib.hid x6
 clear x6 hN Bz hb6
 have Bz := Below.refl V7.heap.size V7
 with_reducible refine (sameVec_q (P := nrm (idxP (colsP.map fun x => pdot [(1, qof (1) 1)] x))) (Q := [(0, qof (2) 1), (1, qof (3) 1)]) (NV.below h7 (by go_grown)) (nv_lit (n := 2) [⟨0, ⟨s16, A16, c16, l16, s16r, A16r, c16r, l16r, qof (2) 1, true⟩⟩, ⟨1, ⟨s17, A17, c17, l17, s17r, A17r, c17r, l17r, qof (3) 1, true⟩⟩] [(0, qof (2) 1), (1, qof (3) 1)] rfl (HX6.out.below (below_trans Bz (by go_grown))) rfl rfl (OnT.c 0 (RN.below h16 (by go_grown)) (sz_one (by decide) (by decide) (by decide)) (OnT.c 1 (RN.below h17 (by go_grown)) (sz_one (by decide) (by decide) (by decide)) (OnT.nil _ _)))) (by decide) (by decide) (by omega) (by omega) true (Lib.hid (by decide +kernel))).mono ?_
 rintro e w18 ⟨rfl, b18⟩
 replace b18 := below_trans (a := V7) (by go_grown) b18
 replace h9 := h9.below b18
 replace h10 := h10.below b18
 replace h12 := h12.below b18
 replace Bz := below_trans Bz b18
 clear b18
 go_wp2_with fail
 with_reducible refine (term6_q (0) (1) (Lib.hid (by omega)) (Lib.hid (Tab.below hT.out (below_trans hB (below_trans (b := w18) Bz (by go_grown)))))).mono ?_
 rintro e w19 ⟨s19, A19, c19, l19, s19r, A19r, c19r, l19r, rfl, h19, b19⟩
 replace b19 := below_trans (a := w18) (by go_grown) b19
 replace h9 := h9.below b19
 replace h10 := h10.below b19
 replace h12 := h12.below b19
 replace Bz := below_trans Bz b19
 clear b19
 go_wp2_with fail
 obtain ⟨V8, hW, x7, hN⟩ := boxes1 w19 #[.int .i64 0, .bool s19, .slice A19 l19 c19, .bool s19r, .slice A19r l19r c19r] 118
 rw [← hW]
 clear hW
 obtain ⟨v7, hb7⟩ : ∃ b, b = w19.heap.size := ⟨_, rfl⟩
 rw [← hb7] at x7 ⊢
 have o0_7 : v0 < v7 := by have := (HX0.out.below Bz).lt; omega
 have o1_7 : v1 < v7 := by have := (HX1.out.below Bz).lt; omega
 have o2_7 : v2 < v7 := by have := (HX2.out.below Bz).lt; omega
 have o3_7 : v3 < v7 := by have := (HX3.out.below Bz).lt; omega
 have o4_7 : v4 < v7 := by have := (HX4.out.below Bz).lt; omega
 have o5_7 : v5 < v7 := by have := (HX5.out.below Bz).lt; omega
 have o6_7 : v6 < v7 := by have := (HX6.out.below Bz).lt; omega
 have ow_7 : w.heap.size ≤ v7 := by have := hB.size; have := Bz.size; omega
 replace h9 := h9.below hN
 replace h10 := h10.below hN
 replace h19 := h19.below hN
 replace h12 := h12.below hN
 replace hB := below_trans (below_trans hB Bz) hN
 replace HX0 := Lib.hid ((HX0.out.below Bz).below hN)
 replace HX1 := Lib.hid ((HX1.out.below Bz).below hN)
 replace HX2 := Lib.hid ((HX2.out.below Bz).below hN)
 replace HX3 := Lib.hid ((HX3.out.below Bz).below hN)
 replace HX4 := Lib.hid ((HX4.out.below Bz).below hN)
 replace HX5 := Lib.hid ((HX5.out.below Bz).below hN)
 replace HX6 := Lib.hid ((HX6.out.below Bz).below hN)
 have HX7 := Lib.hid x7
 clear x7 hN Bz hb7
 have Bz := Below.refl V8.heap.size V8
 with_reducible refine (term6_q (0) (2) (Lib.hid (by omega)) (Lib.hid (Tab.below hT.out (below_trans hB (below_trans (b := V8) Bz (by go_grown)))))).mono ?_
 rintro e w20 ⟨s20, A20, c20, l20, s20r, A20r, c20r, l20r, rfl, h20, b20⟩
 replace b20 := below_trans (a := V8) (by go_grown) b20
 replace h9 := h9.below b20
 replace h10 := h10.below b20
 replace h19 := h19.below b20
 replace h12 := h12.below b20
 replace Bz := below_trans Bz b20
 clear b20
 go_wp2_with fail
 with_reducible refine (term6_q (1) (3) (Lib.hid (by omega)) (Lib.hid (Tab.below hT.out (below_trans hB (below_trans (b := w20) Bz (by go_grown)))))).mono ?_
 rintro e w21 ⟨s21, A21, c21, l21, s21r, A21r, c21r, l21r, rfl, h21, b21⟩
 replace b21 := below_trans (a := w20) (by go_grown) b21
 replace h9 := h9.below b21
 replace h10 := h10.below b21
 replace h19 := h19.below b21
 replace h20 := h20.below b21
 replace h12 := h12.below b21
 replace Bz := below_trans Bz b21
 clear b21
 go_wp2_with fail
 obtain ⟨V9, hW, x8, hN⟩ := boxes1 w21 #[.int .i64 0, .bool s20, .slice A20 l20 c20, .bool s20r, .slice A20r l20r c20r, .int .i64 1, .bool s21, .slice A21 l21 c21, .bool s21r, .slice A21r l21r c21r] 118
 have hs8 : V9.heap.size = w21.heap.size + 1 := by rw [hW]; simp
 rw [← hW]
 clear hW
 obtain ⟨v8, hb8⟩ : ∃ b, b = w21.heap.size := ⟨_, rfl⟩
 rw [← hb8] at x8 hs8 ⊢
 have o0_8 : v0 < v8 := by have := (HX0.out.below Bz).lt; omega
 have o1_8 : v1 < v8 := by have := (HX1.out.below Bz).lt; omega
 have o2_8 : v2 < v8 := by have := (HX2.out.below Bz).lt; omega
 have o3_8 : v3 < v8 := by have := (HX3.out.below Bz).lt; omega
 have o4_8 : v4 < v8 := by have := (HX4.out.below Bz).lt; omega
 have o5_8 : v5 < v8 := by have := (HX5.out.below Bz).lt; omega
 have o6_8 : v6 < v8 := by have := (HX6.out.below Bz).lt; omega
 have o7_8 : v7 < v8 := by have := (HX7.out.below Bz).lt; omega
 have ow_8 : w.heap.size ≤ v8 := by have := hB.size; have := Bz.size; omega
 replace h9 := h9.below hN
 replace h10 := h10.below hN
 replace h19 := h19.below hN
 replace h20 := h20.below hN
 replace h21 := h21.below hN
 replace h12 := h12.below hN
 replace hB := below_trans (below_trans hB Bz) hN
 replace HX0 := Lib.hid ((HX0.out.below Bz).below hN)
 replace HX1 := Lib.hid ((HX1.out.below Bz).below hN)
 replace HX2 := Lib.hid ((HX2.out.below Bz).below hN)
 replace HX3 := Lib.hid ((HX3.out.below Bz).below hN)
 replace HX4 := Lib.hid ((HX4.out.below Bz).below hN)
 replace HX5 := Lib.hid ((HX5.out.below Bz).below hN)
 replace HX6 := Lib.hid ((HX6.out.below Bz).below hN)
 replace HX7 := Lib.hid ((HX7.out.below Bz).below hN)
 have HX8 := Lib.hid x8
 clear x8 hN Bz hb8
 have Bz := Below.refl V9.heap.size V9
 obtain ⟨V10, hW, x9, hN⟩ := boxes1 V9 #[.slice (some ⟨v7, 0, none⟩) 1 1, .slice (some ⟨v8, 0, none⟩) 2 2] 47
 have hs9 : V10.heap.size = V9.heap.size + 1 := by rw [hW]; simp
 rw [← hW]
 clear hW
 rw [hs8] at x9 hs9
 obtain ⟨v9, hb9⟩ : ∃ b, b = v8 + 1 := ⟨_, rfl⟩
 rw [← hb9] at x9 hs9  ⊢
 have o0_9 : v0 < v9 := by have := (HX0.out.below Bz).lt; omega
 have o1_9 : v1 < v9 := by have := (HX1.out.below Bz).lt; omega
 have o2_9 : v2 < v9 := by have := (HX2.out.below Bz).lt; omega
 have o3_9 : v3 < v9 := by have := (HX3.out.below Bz).lt; omega
 have o4_9 : v4 < v9 := by have := (HX4.out.below Bz).lt; omega
 have o5_9 : v5 < v9 := by have := (HX5.out.below Bz).lt; omega
 have o6_9 : v6 < v9 := by have := (HX6.out.below Bz).lt; omega
 have o7_9 : v7 < v9 := by have := (HX7.out.below Bz).lt; omega
 have o8_9 : v8 < v9 := by have := (HX8.out.below Bz).lt; omega
 have ow_9 : w.heap.size ≤ v9 := by have := hB.size; have := Bz.size; omega
 replace h9 := h9.below hN
 replace h10 := h10.below hN
 replace h19 := h19.below hN
 replace h20 := h20.below hN
 replace h21 := h21.below hN
 replace h12 := h12.below hN
 replace hB := below_trans (below_trans hB Bz) hN
 replace HX0 := Lib.hid ((HX0.out.below Bz).below hN)
 replace HX1 := Lib.hid ((HX1.out.below Bz).below hN)
 replace HX2 := Lib.hid ((HX2.out.below Bz).below hN)
 replace HX3 := Lib.hid ((HX3.out.below Bz).below hN)
 replace HX4 := Lib.hid ((HX4.out.below Bz).below hN)
 replace HX5 := Lib.hid ((HX5.out.below Bz).below hN)
 replace HX6 := Lib.hid ((HX6.out.below Bz).below hN)
 replace HX7 := Lib.hid ((HX7.out.below Bz).below hN)
 replace HX8 := Lib.hid ((HX8.out.below Bz).below hN)
 have HX9 := Lib.hid x9
 clear x9 hN Bz hb9
 have Bz := Below.refl V10.heap.size V10
 clear hs8
 with_reducible refine (sameVecs_q (C := (turnT colsP 2)) (D := [[(0, qof (1) 1)], [(0, qof (2) 1), (1, qof (3) 1)]]) (CM.below h9 (by go_grown)) (cm_lit (n := 2) (M := 2) [⟨some ⟨v7, 0, none⟩, 1, 1, [⟨0, ⟨s19, A19, c19, l19, s19r, A19r, c19r, l19r, qof (1) 1, true⟩⟩]⟩, ⟨some ⟨v8, 0, none⟩, 2, 2, [⟨0, ⟨s20, A20, c20, l20, s20r, A20r, c20r, l20r, qof (2) 1, true⟩⟩, ⟨1, ⟨s21, A21, c21, l21, s21r, A21r, c21r, l21r, qof (3) 1, true⟩⟩]⟩] (HX9.out.below (below_trans Bz (by go_grown))) rfl rfl (cns_cons (v := ⟨some ⟨v7, 0, none⟩, 1, 1, [⟨0, ⟨s19, A19, c19, l19, s19r, A19r, c19r, l19r, qof (1) 1, true⟩⟩]⟩) (cn_mk (sl_lit (HX7.out.below (below_trans Bz (by go_grown))) rfl rfl) (OnT.c 0 (RN.below h19 (by go_grown)) (sz_one (by decide) (by decide) (by decide)) (OnT.nil _ _)) (fun h => (by cases h))) (cns_cons (v := ⟨some ⟨v8, 0, none⟩, 2, 2, [⟨0, ⟨s20, A20, c20, l20, s20r, A20r, c20r, l20r, qof (2) 1, true⟩⟩, ⟨1, ⟨s21, A21, c21, l21, s21r, A21r, c21r, l21r, qof (3) 1, true⟩⟩]⟩) (cn_mk (sl_lit (HX8.out.below (below_trans Bz (by go_grown))) rfl rfl) (OnT.c 0 (RN.below h20 (by go_grown)) (sz_one (by decide) (by decide) (by decide)) (OnT.c 1 (RN.below h21 (by go_grown)) (sz_one (by decide) (by decide) (by decide)) (OnT.nil _ _))) (fun h => (by cases h))) (cns_nil _ _))) [[(0, qof (1) 1)], [(0, qof (2) 1), (1, qof (3) 1)]] rfl) (by decide +kernel) (by decide +kernel) (by decide) (by decide) (by decide) (by decide) true (Lib.hid (by decide +kernel))).mono ?_
 rintro e w22 ⟨rfl, b22⟩
 replace b22 := below_trans (a := V10) (by go_grown) b22
 replace h10 := h10.below b22
 replace h12 := h12.below b22
 replace Bz := below_trans Bz b22
 clear b22
 go_wp2_with fail
 obtain ⟨V11, hW, x10, hN⟩ := boxes1 w22 #[.int .i64 1, .int .i64 2, .int .i64 0] 3
 rw [← hW]
 clear hW
 obtain ⟨v10, hb10⟩ : ∃ b, b = w22.heap.size := ⟨_, rfl⟩
 rw [← hb10] at x10 ⊢
 have o0_10 : v0 < v10 := by have := (HX0.out.below Bz).lt; omega
 have o1_10 : v1 < v10 := by have := (HX1.out.below Bz).lt; omega
 have o2_10 : v2 < v10 := by have := (HX2.out.below Bz).lt; omega
 have o3_10 : v3 < v10 := by have := (HX3.out.below Bz).lt; omega
 have o4_10 : v4 < v10 := by have := (HX4.out.below Bz).lt; omega
 have o5_10 : v5 < v10 := by have := (HX5.out.below Bz).lt; omega
 have o6_10 : v6 < v10 := by have := (HX6.out.below Bz).lt; omega
 have o7_10 : v7 < v10 := by have := (HX7.out.below Bz).lt; omega
 have o8_10 : v8 < v10 := by have := (HX8.out.below Bz).lt; omega
 have o9_10 : v9 < v10 := by have := (HX9.out.below Bz).lt; omega
 have ow_10 : w.heap.size ≤ v10 := by have := hB.size; have := Bz.size; omega
 replace h10 := h10.below hN
 replace h12 := h12.below hN
 replace hB := below_trans (below_trans hB Bz) hN
 replace HX0 := Lib.hid ((HX0.out.below Bz).below hN)
 replace HX1 := Lib.hid ((HX1.out.below Bz).below hN)
 replace HX2 := Lib.hid ((HX2.out.below Bz).below hN)
 replace HX3 := Lib.hid ((HX3.out.below Bz).below hN)
 replace HX4 := Lib.hid ((HX4.out.below Bz).below hN)
 replace HX5 := Lib.hid ((HX5.out.below Bz).below hN)
 replace HX6 := Lib.hid ((HX6.out.below Bz).below hN)
 replace HX7 := Lib.hid ((HX7.out.below Bz).below hN)
 replace HX8 := Lib.hid ((HX8.out.below Bz).below hN)
 replace HX9 := Lib.hid ((HX9.out.below Bz).below hN)
 have HX10 := Lib.hid x10
 clear x10 hN Bz hb10
 have Bz := Below.refl V11.heap.size V11
 with_reducible refine (sameInts_q (L := (invL ([2, 0, 1] : List Int))) (M := ([1, 2, 0] : List Int)) (Sl.below h10 (by go_grown)) (sl_litG (L := [1, 2, 0]) (n := 3) ics_len (HX10.out.below (below_trans Bz (by go_grown))) rfl rfl) (by decide) (by decide) true (Lib.hid (by decide +kernel))).mono ?_
 rintro e w23 ⟨rfl, b23⟩
 replace b23 := below_trans (a := V11) (by go_grown) b23
 replace h12 := h12.below b23
 replace Bz := below_trans Bz b23
 clear b23
 go_wp2_with fail
 with_reducible refine (term6_q (2) (5) (Lib.hid (by omega)) (Lib.hid (Tab.below hT.out (below_trans hB (below_trans (b := w23) Bz (by go_grown)))))).mono ?_
 rintro e w24 ⟨s24, A24, c24, l24, s24r, A24r, c24r, l24r, rfl, h24, b24⟩
 replace b24 := below_trans (a := w23) (by go_grown) b24
 replace h12 := h12.below b24
 replace Bz := below_trans Bz b24
 clear b24
 go_wp2_with fail
 obtain ⟨V12, hW, x11, hN⟩ := boxes1 w24 #[.int .i64 2, .bool s24, .slice A24 l24 c24, .bool s24r, .slice A24r l24r c24r] 118
 rw [← hW]
 clear hW
 obtain ⟨v11, hb11⟩ : ∃ b, b = w24.heap.size := ⟨_, rfl⟩
 rw [← hb11] at x11 ⊢
 have o0_11 : v0 < v11 := by have := (HX0.out.below Bz).lt; omega
 have o1_11 : v1 < v11 := by have := (HX1.out.below Bz).lt; omega
 have o2_11 : v2 < v11 := by have := (HX2.out.below Bz).lt; omega
 have o3_11 : v3 < v11 := by have := (HX3.out.below Bz).lt; omega
 have o4_11 : v4 < v11 := by have := (HX4.out.below Bz).lt; omega
 have o5_11 : v5 < v11 := by have := (HX5.out.below Bz).lt; omega
 have o6_11 : v6 < v11 := by have := (HX6.out.below Bz).lt; omega
 have o7_11 : v7 < v11 := by have := (HX7.out.below Bz).lt; omega
 have o8_11 : v8 < v11 := by have := (HX8.out.below Bz).lt; omega
 have o9_11 : v9 < v11 := by have := (HX9.out.below Bz).lt; omega
 have o10_11 : v10 < v11 := by have := (HX10.out.below Bz).lt; omega
 have ow_11 : w.heap.size ≤ v11 := by have := hB.size; have := Bz.size; omega
 replace h24 := h24.below hN
 replace h12 := h12.below hN
 replace hB := below_trans (below_trans hB Bz) hN
 replace HX0 := Lib.hid ((HX0.out.below Bz).below hN)
 replace HX1 := Lib.hid ((HX1.out.below Bz).below hN)
 replace HX2 := Lib.hid ((HX2.out.below Bz).below hN)
 replace HX3 := Lib.hid ((HX3.out.below Bz).below hN)
 replace HX4 := Lib.hid ((HX4.out.below Bz).below hN)
 replace HX5 := Lib.hid ((HX5.out.below Bz).below hN)
 replace HX6 := Lib.hid ((HX6.out.below Bz).below hN)
 replace HX7 := Lib.hid ((HX7.out.below Bz).below hN)
 replace HX8 := Lib.hid ((HX8.out.below Bz).below hN)
 replace HX9 := Lib.hid ((HX9.out.below Bz).below hN)
 replace HX10 := Lib.hid ((HX10.out.below Bz).below hN)
 have HX11 := Lib.hid x11
 clear x11 hN Bz hb11
 have Bz := Below.refl V12.heap.size V12
 with_reducible refine (sameVec_q (P := nrm (movF ([2, 0, 1] : List Int) (nrm [(0, qof (5) 1)]))) (Q := [(2, qof (5) 1)]) (NV.below h12 (by go_grown)) (nv_lit (n := 1) [⟨2, ⟨s24, A24, c24, l24, s24r, A24r, c24r, l24r, qof (5) 1, true⟩⟩] [(2, qof (5) 1)] rfl (HX11.out.below (below_trans Bz (by go_grown))) rfl rfl (OnT.c 2 (RN.below h24 (by go_grown)) (sz_one (by decide) (by decide) (by decide)) (OnT.nil _ _))) (by decide) (by decide) (by omega) (by omega) true (Lib.hid (by decide +kernel))).mono ?_
 rintro e w25 ⟨rfl, b25⟩
 replace b25 := below_trans (a := V12) (by go_grown) b25
 replace Bz := below_trans Bz b25
 clear b25
 go_wp2_with fail
 go_ret
 have hF := below_trans (c := w25) hB Bz
 exact ⟨rfl, below_trans hF (by go_grown)⟩
end Go.Proofs.YtldcfmangolkoaaGreatDoor
