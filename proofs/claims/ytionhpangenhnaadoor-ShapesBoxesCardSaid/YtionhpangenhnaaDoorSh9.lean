/-
  Which networks may be: sizes, Sizes, Check. Written by wip/gen/sh9.py.
-/
import Derived.Test.YtionhpangenhnaaDoorSh8
namespace Go.Proofs.YtionhpangenhnaaDoor
open Go.RowKit Tw

theorem lens_all {L : List Vc} {K : Nat} (h : ∀ v ∈ L, v.n ≤ K) : lens L ≤ L.length * K := by have := lens_le h L.length; rwa [List.take_length] at this
theorem glens_all {L : List Gp} {K : Nat} (h : ∀ v ∈ L, v.n ≤ K) : glens L ≤ L.length * K := by have := glens_le h L.length; rwa [List.take_length] at this
/-- Units and terms behind a layer that fits. -/
theorem behind_bd {w : World} {m : Nat} {y : Ly} {n u t : Int} (h : LyOk w m y) (h1 : 1 ≤ n) (h2 : n ≤ 256) (hf : behindF y n = some (u, t)) : 1 ≤ u ∧ u ≤ 200000000 ∧ 0 ≤ t ∧ t ≤ 3000000000000000 := by
  have hl := h.lens
  unfold behindF at hf
  by_cases k1 : y.kind = 1
  · rw [if_pos k1] at hf
    unfold affineF at hf
    have hb := lens_all (K := 1000000) fun v hv => (h.rok v hv).2.2
    have hr := h.rows.1
    have hk : y.rows.length * 1000000 ≤ 100000 * 1000000 := Nat.mul_le_mul_right _ (by omega)
    (repeat' split at hf) <;> simp at hf
    obtain ⟨rfl, rfl⟩ := hf
    omega
  · rw [if_neg k1] at hf
    by_cases k2 : y.kind = 2
    · rw [if_pos k2] at hf
      unfold convF at hf
      by_cases c0 : ((sides y).all fun z => decide (1 ≤ z) && decide (z ≤ 256)) = false
      · rw [if_pos c0] at hf; cases hf
      · rw [if_neg c0] at hf
        have q := sides_ok (by simpa using c0)
        by_cases c1 : y.pad < 0
        · rw [if_pos c1] at hf; cases hf
        · rw [if_neg c1] at hf
          by_cases c2 : y.kh ≤ y.pad
          · rw [if_pos c2] at hf; cases hf
          · rw [if_neg c2] at hf
            by_cases c5 : cHigh y < 0
            · (repeat' split at hf) <;> simp at hf
            · by_cases c6 : cWide y < 0
              · (repeat' split at hf) <;> simp at hf
              · have p3 := mulb (by have := q.ch; omega) q.ch.2 (by have := q.kh; omega) q.kh.2
                have p4 := mulb p3.1 p3.2 (by have := q.kw; omega) q.kw.2
                have q1 : 0 ≤ cHigh y / y.st ∧ cHigh y / y.st ≤ 766 := divb (by have := q.st; omega) (by omega) (by have := q.high; have := q.kh; unfold cHigh; omega)
                by_cases c3 : y.kw ≤ y.pad
                · (repeat' split at hf) <;> simp at hf
                · have q2 : 0 ≤ cWide y / y.st ∧ cWide y / y.st ≤ 766 := divb (by have := q.st; omega) (by omega) (by have := q.wide; have := q.kw; unfold cWide; omega)
                  have p6 := mulb (b := cHigh y / y.st + 1) (B := 767) (by have := q.out; omega) q.out.2 (by omega) (by omega)
                  have p7 := mulb (b := cWide y / y.st + 1) (B := 767) p6.1 p6.2 (by omega) (by omega)
                  have p8 := mulb p7.1 p7.2 p4.1 p4.2
                  have g1 : 1 ≤ y.out * (cHigh y / y.st + 1) := Int.mul_pos (by have := q.out; omega) (by omega)
                  have g2 : 1 ≤ y.out * (cHigh y / y.st + 1) * (cWide y / y.st + 1) := Int.mul_pos (by omega) (by omega)
                  have e : u = cUnits y ∧ t = cUnits y * cEach y := by
                    (repeat' split at hf) <;> simp at hf
                    exact ⟨hf.1.symm, hf.2.symm⟩
                  obtain ⟨rfl, rfl⟩ := e
                  unfold cUnits cEach
                  omega
    · rw [if_neg k2] at hf
      by_cases k3 : y.kind = 3
      · rw [if_pos k3] at hf
        split at hf <;> simp at hf
        obtain ⟨rfl, rfl⟩ := hf
        omega
      · rw [if_neg k3] at hf
        by_cases k4 : y.kind = 4
        · rw [if_pos k4] at hf
          unfold poolF at hf
          have hb := glens_all (K := 1000000) fun v hv => (h.gok v hv).2
          have hr := h.groups.1
          have hk : y.groups.length * 1000000 ≤ 100000 * 1000000 := Nat.mul_le_mul_right _ (by omega)
          (repeat' split at hf) <;> simp at hf
          obtain ⟨rfl, rfl⟩ := hf
          omega
        · rw [if_neg k4] at hf; cases hf
/-- What sizes tells. -/
def TellsZs (w : World) (f : Except Int (List Int)) (e : Ending) (w' : World) : Prop :=
  match f with
  | .error k => e = .returned (.tuple #[.slice none 0 0, .int .i64 k]) ∧ Below w.heap.size w w'
  | .ok l => ∃ A n c, e = .returned (.tuple #[.slice A n c, .int .i64 0]) ∧ Sl ics 1 w' A n c l ∧ n ≤ c ∧ Below w.heap.size w w'
/-- A state of the loop of sizes. -/
def SZ (w : World) (L : List Ly) (inp : Int) (n gk : Nat) (s4 s5 s31 : Value) (wr : World) : Prop :=
  ∃ (i : Nat) (pre : List Int) (cur s : Int) (H : Option Addr) (cap : Nat), i ≤ n ∧ n - i = gk ∧ s31 = .int .i64 (i : Int) ∧ pre.length = i ∧ s4 = .slice H (i + 1) cap ∧ OwnR wr w.heap.size 3 1 (.slice H (i + 1) cap) (i + 1) (flat ics (pre ++ [cur])) ∧ s5 = .int .i64 s ∧ 0 ≤ s ∧ s ≤ 16384 ∧ 1 ≤ cur ∧ cur ≤ 256 ∧
    stepsF L inp 0 = (stepsF (L.drop i) cur s).map (pre ++ ·) ∧ Below w.heap.size w wr
theorem steps_cons {y : Ly} {L : List Ly} {n s : Int} : stepsF (y :: L) n s = match behindF y n with | none => .error 22 | some (u, t) => if 256 < u then .error 25 else if 16384 < s + t then .error 25 else (stepsF L u (s + t)).map (n :: ·) := rfl
theorem steps_at {L : List Ly} {i : Nat} {y : Ly} {cur s : Int} (h : L[i]? = some y) : stepsF (L.drop i) cur s = match behindF y cur with | none => .error 22 | some (u, t) => if 256 < u then .error 25 else if 16384 < s + t then .error 25 else (stepsF (L.drop (i + 1)) u (s + t)).map (cur :: ·) := by
  have hi : i < L.length := (List.getElem?_eq_some_iff.1 h).1
  have e : L.drop i = y :: L.drop (i + 1) := by rw [List.drop_eq_getElem_cons hi]; congr 1; exact (List.getElem?_eq_some_iff.1 h).2
  rw [e, steps_cons]
theorem map_map_cons {f : Except Int (List Int)} {pre : List Int} {cur : Int} : (f.map (cur :: ·)).map (pre ++ ·) = f.map ((pre ++ [cur]) ++ ·) := by
  cases f with
  | error e => rfl
  | ok l => simp [Except.map]
theorem flat_ics_last (pre : List Int) (cur : Int) : (flat ics (pre ++ [cur]))[pre.length]? = some (.int .i64 cur) := by
  have := flat_get ics_len (pre ++ [cur]) pre.length cur (by simp) 0 (by omega)
  simpa [ics] using this
set_option maxRecDepth 100000 in
set_option maxHeartbeats 4000000 in
theorem sizes_0 {w : World} {inp : Int} {lA : Option Addr} {ln lc : Nat} {L : List Ly} (g1 : inp < 1) (HA : Hid (sizesF inp L = .error 25)) :
    Calls Tryd.prog 41 #[.agg #[.int .i64 inp, .slice lA ln lc]] w (TellsZs w (sizesF inp L)) := by
  obtain ⟨W, hW, x0, hB⟩ := boxes1 w #[.int .i64 inp, .slice lA ln lc] 30
  have HX0 := Lib.hid x0
  clear x0
  have Bz := Below.refl W.heap.size W
  have p0_0 := (HX0.out.below Bz).cell 0 (.int .i64 inp) rfl
  go_enter Tryd.func41, Tryd.ntmps41
  go_wp2_with fail
  rw [← hW]
  clear hW
  go_wp2_with fail
  go_ret2
  have hF := below_trans (c := W) hB Bz
  rw [HA.out]
  exact ⟨rfl, below_trans hF (by go_grown)⟩
set_option maxRecDepth 100000 in
set_option maxHeartbeats 4000000 in
theorem sizes_1 {w : World} {inp : Int} {lA : Option Addr} {ln lc : Nat} {L : List Ly} (g1 : ¬ inp < 1) (g2 : 64 < inp) (HA : Hid (sizesF inp L = .error 25)) :
    Calls Tryd.prog 41 #[.agg #[.int .i64 inp, .slice lA ln lc]] w (TellsZs w (sizesF inp L)) := by
  obtain ⟨W, hW, x0, hB⟩ := boxes1 w #[.int .i64 inp, .slice lA ln lc] 30
  have HX0 := Lib.hid x0
  clear x0
  have Bz := Below.refl W.heap.size W
  have p0_0 := (HX0.out.below Bz).cell 0 (.int .i64 inp) rfl
  go_enter Tryd.func41, Tryd.ntmps41
  go_wp2_with fail
  rw [← hW]
  clear hW
  go_wp2_with fail
  go_ret2
  have hF := below_trans (c := W) hB Bz
  rw [HA.out]
  exact ⟨rfl, below_trans hF (by go_grown)⟩
set_option maxRecDepth 100000 in
set_option maxHeartbeats 4000000 in
theorem sizes_2 {w : World} {inp : Int} {lA : Option Addr} {ln lc : Nat} {L : List Ly} (g1 : ¬ inp < 1) (g2 : ¬ 64 < inp) (g3 : 16 < ln) (HA : Hid (sizesF inp L = .error 25)) :
    Calls Tryd.prog 41 #[.agg #[.int .i64 inp, .slice lA ln lc]] w (TellsZs w (sizesF inp L)) := by
  obtain ⟨W, hW, x0, hB⟩ := boxes1 w #[.int .i64 inp, .slice lA ln lc] 30
  have HX0 := Lib.hid x0
  clear x0
  have Bz := Below.refl W.heap.size W
  have p0_0 := (HX0.out.below Bz).cell 0 (.int .i64 inp) rfl
  have p0_1 := (HX0.out.below Bz).cell 1 (.slice lA ln lc) rfl
  go_enter Tryd.func41, Tryd.ntmps41
  go_wp2_with fail
  rw [← hW]
  clear hW
  go_wp2_with fail
  go_ret2
  have hF := below_trans (c := W) hB Bz
  rw [HA.out]
  exact ⟨rfl, below_trans hF (by go_grown)⟩
set_option maxRecDepth 100000 in
set_option maxHeartbeats 4000000 in
theorem sizes_ok {w : World} {m : Nat} {inp : Int} {lA : Option Addr} {ln lc : Nat} {L : List Ly} (h : Sl Ly.cs 13 w lA ln lc L) (hok : Hid (∀ y ∈ L, LyOk w m y)) (hm : m ≤ 20000) (hln : ln ≤ 9223372036854775807) (g1 : ¬ inp < 1) (g2 : ¬ 64 < inp) (g3 : ¬ 16 < ln) (hT : Hid (Tab w)) :
    Calls Tryd.prog 41 #[.agg #[.int .i64 inp, .slice lA ln lc]] w (TellsZs w (sizesF inp L)) := by
  have HSZE : Hid (sizesF inp L = stepsF L inp 0) := Lib.hid (by unfold sizesF; rw [if_neg g1, if_neg g2, if_neg (by have := h.1; omega)])
  have H0 := Lib.hid h
  have HLN := Lib.hid h.1
  clear h
  obtain ⟨W, hW, x0, hB⟩ := boxes1 w #[.int .i64 inp, .slice lA ln lc] 30
  have HX0 := Lib.hid x0
  clear x0
  have Bz := Below.refl W.heap.size W
  have p0_0 := (HX0.out.below Bz).cell 0 (.int .i64 inp) rfl
  have p0_1 := (HX0.out.below Bz).cell 1 (.slice lA ln lc) rfl
  go_enter Tryd.func41, Tryd.ntmps41
  go_upto_region 1 with (fail)
  rw [← hW]
  clear hW
  go_upto_region 4 with (fail)
  obtain ⟨V1, hW, x1, hN⟩ := boxes1 W #[.int .i64 inp] 3
  rw [← hW]
  clear hW
  obtain ⟨v1, hb1⟩ : ∃ b, b = W.heap.size := ⟨_, rfl⟩
  rw [← hb1] at x1 ⊢
  have o0_1 : w.heap.size < v1 := by have := (HX0.out.below Bz).lt; omega
  have ow_1 : w.heap.size ≤ v1 := by have := hB.size; have := Bz.size; omega
  replace hB := below_trans (below_trans hB Bz) hN
  replace HX0 := Lib.hid ((HX0.out.below Bz).below hN)
  have HX1 := Lib.hid x1
  clear x1 hN Bz hb1
  have Bz := Below.refl V1.heap.size V1
  clear p0_0 p0_1
  have p0_1 := (HX0.out.below Bz).cell 1 (.slice lA ln lc) rfl
  go_wp2_with fail
  have HB0 := Lib.hid (below_trans hB Bz)
  have HO0 : Hid (OwnR V1 w.heap.size 3 1 (.slice (some ⟨v1, 0, none⟩) 1 1) 1 (flat ics [inp])) := Lib.hid (OwnR.lit1 elt_int (HX1.out.below Bz) (by omega) inp rfl)
  clear hB Bz HX0 HX1
  go_loopg [4, 5, 31] ln (fun gk s4 s5 s31 wr => SZ w L inp ln gk s4 s5 s31 wr)
  case atStart => exact ⟨0, [], inp, 0, _, _, Nat.zero_le _, rfl, rfl, rfl, rfl, HO0.out, rfl, by omega, by omega, by omega, by omega, by rw [List.drop_zero]; cases stepsF L inp 0 <;> rfl, HB0.out⟩
  case round =>
    clear HB0 HO0
    obtain ⟨i, pre, cur, s, H, cap, hi, hgk, rfl, hpl, rfl, how, rfl, hs0, hs1, hc0, hc1, hst, hB⟩ := hrel
    have HGK := Lib.hid hgk
    have HST := Lib.hid hst
    have HPL := Lib.hid hpl
    clear hgk hst hpl
    obtain ⟨g, rfl⟩ : ∃ g, H = some ⟨g, 0, none⟩ := by
      obtain ⟨H', c', e, h1, h2, _⟩ := how.slice
      cases e
      cases H with
      | none => have := (h1 rfl).1; omega
      | some a => obtain ⟨g, rfl⟩ := h2 a rfl; exact ⟨g, rfl⟩
    have hcap : i + 1 ≤ cap := by obtain ⟨H', c', e, _, _, h3, _⟩ := how.slice; cases e; exact h3
    by_cases hlt : i < ln
    · obtain ⟨b, off, rfl, hel⟩ := H0.out.at Ly.cs_len (by omega) (by omega)
      obtain ⟨y, hy⟩ : ∃ y, L[i]? = some y := ⟨L[i]'(by rw [HLN.out]; exact hlt), List.getElem?_eq_getElem _⟩
      have hnd := hel i y hy
      have HTI := Lib.hid hy
      have HY := Lib.hid (hok.out y (List.mem_of_getElem? hy))
      have i1 : (i : Int) < (ln : Int) := by omega
      have i2 : (0 : Int) ≤ (i : Int) := by omega
      have i3 : (i : Int) < ((i + 1 : Nat) : Int) := by omega
      have i4 : (i : Int) < (i : Int) + 1 := by omega
      have hoel : ElA wr g i (ics cur) := fun j v hv => by
        obtain rfl : j = 0 := by
          rcases Nat.eq_zero_or_pos j with h | h
          · exact h
          · rw [List.getElem?_eq_none (by rw [ics_len]; omega)] at hv; cases hv
        rw [Nat.add_zero]
        refine how.cell (j := i) (u := v) ?_
        rw [show i = pre.length from HPL.out.symm, flat_ics_last]
        simpa [ics] using hv
      clear hy hel
      cases hf : behindF y cur with
      | none =>
        have HF := Lib.hid hf
        clear hf how
        have HSZ : Hid (sizesF inp L = .error 22) := Lib.hid (by rw [HSZE.out, HST.out, steps_at HTI.out, HF.out]; rfl)
        have Bz := Below.refl wr.heap.size wr
        have p50_0 := (hnd.below (below_trans hB Bz)).c0 (u := .int .u8 y.kind) rfl
        have p50_1 := (hnd.below (below_trans hB Bz)).at 1 (.slice y.rA y.rn y.rc) rfl
        have p50_2 := (hnd.below (below_trans hB Bz)).at 2 (.slice y.bA y.bn y.bc) rfl
        have p50_3 := (hnd.below (below_trans hB Bz)).at 3 (.int .i64 y.ch) rfl
        have p50_4 := (hnd.below (below_trans hB Bz)).at 4 (.int .i64 y.high) rfl
        have p50_5 := (hnd.below (below_trans hB Bz)).at 5 (.int .i64 y.wide) rfl
        have p50_6 := (hnd.below (below_trans hB Bz)).at 6 (.int .i64 y.out) rfl
        have p50_7 := (hnd.below (below_trans hB Bz)).at 7 (.int .i64 y.kh) rfl
        have p50_8 := (hnd.below (below_trans hB Bz)).at 8 (.int .i64 y.kw) rfl
        have p50_9 := (hnd.below (below_trans hB Bz)).at 9 (.int .i64 y.st) rfl
        have p50_10 := (hnd.below (below_trans hB Bz)).at 10 (.int .i64 y.pad) rfl
        have p50_11 := (hnd.below (below_trans hB Bz)).at 11 (.slice y.kA y.kn y.kc) rfl
        have p50_12 := (hnd.below (below_trans hB Bz)).at 12 (.slice y.gA y.gn y.gc) rfl
        go_upto_region 8 with (fail)
        obtain ⟨V1, hW, x0, hN⟩ := boxes1 wr #[.int .u8 y.kind, .slice y.rA y.rn y.rc, .slice y.bA y.bn y.bc, .int .i64 y.ch, .int .i64 y.high, .int .i64 y.wide, .int .i64 y.out, .int .i64 y.kh, .int .i64 y.kw, .int .i64 y.st, .int .i64 y.pad, .slice y.kA y.kn y.kc, .slice y.gA y.gn y.gc] 38
        rw [← hW]
        clear hW
        obtain ⟨v0, hb0⟩ : ∃ b, b = wr.heap.size := ⟨_, rfl⟩
        rw [← hb0] at x0 ⊢
        have ow_0 : w.heap.size ≤ v0 := by have := hB.size; have := Bz.size; omega
        replace hoel := hoel.below hN
        replace hB := below_trans (below_trans hB Bz) hN
        have HX0 := Lib.hid x0
        clear x0 hN Bz hb0
        have Bz := Below.refl V1.heap.size V1
        clear p50_0 p50_1 p50_2 p50_3 p50_4 p50_5 p50_6 p50_7 p50_8 p50_9 p50_10 p50_11 p50_12
        have p0_0 := (HX0.out.below Bz).cell 0 (.int .u8 y.kind) rfl
        have p0_1 := (HX0.out.below Bz).cell 1 (.slice y.rA y.rn y.rc) rfl
        have p0_2 := (HX0.out.below Bz).cell 2 (.slice y.bA y.bn y.bc) rfl
        have p0_3 := (HX0.out.below Bz).cell 3 (.int .i64 y.ch) rfl
        have p0_4 := (HX0.out.below Bz).cell 4 (.int .i64 y.high) rfl
        have p0_5 := (HX0.out.below Bz).cell 5 (.int .i64 y.wide) rfl
        have p0_6 := (HX0.out.below Bz).cell 6 (.int .i64 y.out) rfl
        have p0_7 := (HX0.out.below Bz).cell 7 (.int .i64 y.kh) rfl
        have p0_8 := (HX0.out.below Bz).cell 8 (.int .i64 y.kw) rfl
        have p0_9 := (HX0.out.below Bz).cell 9 (.int .i64 y.st) rfl
        have p0_10 := (HX0.out.below Bz).cell 10 (.int .i64 y.pad) rfl
        have p0_11 := (HX0.out.below Bz).cell 11 (.slice y.kA y.kn y.kc) rfl
        have p0_12 := (HX0.out.below Bz).cell 12 (.slice y.gA y.gn y.gc) rfl
        have p51_0 := hoel.c0 (u := .int .i64 cur) rfl
        go_wp2_with fail
        (try simp only [List.append_eq, List.cons_append, List.nil_append])
        refine wp_region_plan (.take 0 (.pure 1 (.pure 2 (.pure 3 (.take 4 (.only 5 (.pure 6 (.pure 7 (.pure 8 (.pure 9 (.pure 10 (.pure 11 (.pure 12 .done))))))))))))) [] (fun w' => w'.cell? ⟨v0, 0, none⟩ = some (.int .u8 y.kind) ∧ w'.cell? ⟨v0, 1, none⟩ = some (.slice y.rA y.rn y.rc) ∧ w'.cell? ⟨v0, 2, none⟩ = some (.slice y.bA y.bn y.bc) ∧ w'.cell? ⟨v0, 3, none⟩ = some (.int .i64 y.ch) ∧ w'.cell? ⟨v0, 4, none⟩ = some (.int .i64 y.high) ∧ w'.cell? ⟨v0, 5, none⟩ = some (.int .i64 y.wide) ∧ w'.cell? ⟨v0, 6, none⟩ = some (.int .i64 y.out) ∧ w'.cell? ⟨v0, 7, none⟩ = some (.int .i64 y.kh) ∧ w'.cell? ⟨v0, 8, none⟩ = some (.int .i64 y.kw) ∧ w'.cell? ⟨v0, 9, none⟩ = some (.int .i64 y.st) ∧ w'.cell? ⟨v0, 10, none⟩ = some (.int .i64 y.pad) ∧ w'.cell? ⟨v0, 11, none⟩ = some (.slice y.kA y.kn y.kc) ∧ w'.cell? ⟨v0, 12, none⟩ = some (.slice y.gA y.gn y.gc) ∧ w'.cell? ⟨g, i, none⟩ = some (.int .i64 cur)) (by kernel_rfl) (by kernel_rfl) ⟨p0_0, p0_1, p0_2, p0_3, p0_4, p0_5, p0_6, p0_7, p0_8, p0_9, p0_10, p0_11, p0_12, p51_0⟩ ?_
        refine wpPlan_take (o := ⟨some 37, _, _, _, _, _⟩) (v := ?_) rfl rfl (fun w' hS => ?_) ?_
        rotate_left
        · obtain ⟨p0_0, p0_1, p0_2, p0_3, p0_4, p0_5, p0_6, p0_7, p0_8, p0_9, p0_10, p0_11, p0_12, p51_0⟩ := hS; go_simp <;> with_reducible rfl
        try simp only [Act.put, List.setIfInBounds_toArray, List.set_cons_zero, List.set_cons_succ]
        refine wpPlan_pure (o := ⟨some 38, _, _, _, _, _⟩) (v := ?_) rfl rfl (fun w' => ?_) ?_
        rotate_left
        · go_simp <;> with_reducible rfl
        try simp only [Act.put, List.setIfInBounds_toArray, List.set_cons_zero, List.set_cons_succ]
        refine wpPlan_pure (o := ⟨some 39, _, _, _, _, _⟩) (v := ?_) rfl rfl (fun w' => ?_) ?_
        rotate_left
        · go_simp <;> with_reducible rfl
        try simp only [Act.put, List.setIfInBounds_toArray, List.set_cons_zero, List.set_cons_succ]
        refine wpPlan_pure (o := ⟨some 40, _, _, _, _, _⟩) (v := ?_) rfl rfl (fun w' => ?_) ?_
        rotate_left
        · go_simp <;> with_reducible rfl
        try simp only [Act.put, List.setIfInBounds_toArray, List.set_cons_zero, List.set_cons_succ]
        refine wpPlan_take (o := ⟨some 41, _, _, _, _, _⟩) (v := ?_) rfl rfl (fun w' hS => ?_) ?_
        rotate_left
        · obtain ⟨p0_0, p0_1, p0_2, p0_3, p0_4, p0_5, p0_6, p0_7, p0_8, p0_9, p0_10, p0_11, p0_12, p51_0⟩ := hS; go_simp <;> with_reducible rfl
        try simp only [Act.put, List.setIfInBounds_toArray, List.set_cons_zero, List.set_cons_succ]
        refine wpPlan_call (o := ⟨some 42, _, _, _, _, _⟩) rfl rfl (fun K hK => ?_)
        go_simp
        with_reducible refine ((behind_q (HY.out.below (below_trans hB (below_trans (b := V1) Bz (by go_grown)))) hm (Lib.hid (Tab.below hT.out (below_trans hB (below_trans (b := V1) Bz (by go_grown)))))).mono fun _ _ hx => TellsB.no hx HF.out).mono ?_
        rintro e w1 ⟨rfl, b1⟩
        replace b1 := below_trans (a := V1) (by go_grown) b1
        replace hoel := hoel.below b1
        replace Bz := below_trans Bz b1
        clear b1
        clear p0_0 p0_1 p0_2 p0_3 p0_4 p0_5 p0_6 p0_7 p0_8 p0_9 p0_10 p0_11 p0_12 p51_0
        have p0_0 := (HX0.out.below Bz).cell 0 (.int .u8 y.kind) rfl
        have p0_1 := (HX0.out.below Bz).cell 1 (.slice y.rA y.rn y.rc) rfl
        have p0_2 := (HX0.out.below Bz).cell 2 (.slice y.bA y.bn y.bc) rfl
        have p0_3 := (HX0.out.below Bz).cell 3 (.int .i64 y.ch) rfl
        have p0_4 := (HX0.out.below Bz).cell 4 (.int .i64 y.high) rfl
        have p0_5 := (HX0.out.below Bz).cell 5 (.int .i64 y.wide) rfl
        have p0_6 := (HX0.out.below Bz).cell 6 (.int .i64 y.out) rfl
        have p0_7 := (HX0.out.below Bz).cell 7 (.int .i64 y.kh) rfl
        have p0_8 := (HX0.out.below Bz).cell 8 (.int .i64 y.kw) rfl
        have p0_9 := (HX0.out.below Bz).cell 9 (.int .i64 y.st) rfl
        have p0_10 := (HX0.out.below Bz).cell 10 (.int .i64 y.pad) rfl
        have p0_11 := (HX0.out.below Bz).cell 11 (.slice y.kA y.kn y.kc) rfl
        have p0_12 := (HX0.out.below Bz).cell 12 (.slice y.gA y.gn y.gc) rfl
        have p51_0 := hoel.c0 (u := .int .i64 cur) rfl
        refine hK.out _ _ ⟨p0_0, p0_1, p0_2, p0_3, p0_4, p0_5, p0_6, p0_7, p0_8, p0_9, p0_10, p0_11, p0_12, p51_0⟩ (fun _ => ?_)
        try simp only [Act.put, List.setIfInBounds_toArray, List.set_cons_zero, List.set_cons_succ]
        clear hK K
        refine wpPlan_pure (o := ⟨some 36, _, _, _, _, _⟩) (v := ?_) rfl rfl (fun w' => ?_) ?_
        rotate_left
        · go_simp <;> with_reducible rfl
        try simp only [Act.put, List.setIfInBounds_toArray, List.set_cons_zero, List.set_cons_succ]
        refine wpPlan_pure (o := ⟨some 43, _, _, _, _, _⟩) (v := ?_) rfl rfl (fun w' => ?_) ?_
        rotate_left
        · go_simp <;> with_reducible rfl
        try simp only [Act.put, List.setIfInBounds_toArray, List.set_cons_zero, List.set_cons_succ]
        refine wpPlan_pure (o := ⟨some 44, _, _, _, _, _⟩) (v := ?_) rfl rfl (fun w' => ?_) ?_
        rotate_left
        · go_simp <;> with_reducible rfl
        try simp only [Act.put, List.setIfInBounds_toArray, List.set_cons_zero, List.set_cons_succ]
        refine wpPlan_pure (o := ⟨some 45, _, _, _, _, _⟩) (v := ?_) rfl rfl (fun w' => ?_) ?_
        rotate_left
        · go_simp <;> with_reducible rfl
        try simp only [Act.put, List.setIfInBounds_toArray, List.set_cons_zero, List.set_cons_succ]
        refine wpPlan_pure (o := ⟨some 8, _, _, _, _, _⟩) (v := ?_) rfl rfl (fun w' => ?_) ?_
        rotate_left
        · go_simp <;> with_reducible rfl
        try simp only [Act.put, List.setIfInBounds_toArray, List.set_cons_zero, List.set_cons_succ]
        refine wpPlan_pure (o := ⟨some 9, _, _, _, _, _⟩) (v := ?_) rfl rfl (fun w' => ?_) ?_
        rotate_left
        · go_simp <;> with_reducible rfl
        try simp only [Act.put, List.setIfInBounds_toArray, List.set_cons_zero, List.set_cons_succ]
        refine wpPlan_pure (o := ⟨some 10, _, _, _, _, _⟩) (v := ?_) rfl rfl (fun w' => ?_) ?_
        rotate_left
        · go_simp <;> with_reducible rfl
        try simp only [Act.put, List.setIfInBounds_toArray, List.set_cons_zero, List.set_cons_succ]
        refine wpPlan_done ?_
        go_wp2_with fail
        go_ret2
        have hF := below_trans (c := w1) hB Bz
        rw [HSZ.out]
        exact ⟨rfl, below_trans hF (by go_grown)⟩
      | some p =>
        obtain ⟨u, t⟩ := p
        have HF := Lib.hid hf
        have hbd := behind_bd HY.out hc0 hc1 hf
        obtain ⟨d1, d2, d3, d4⟩ := hbd
        clear hf
        by_cases hu : 256 < u
        · have HSZ : Hid (sizesF inp L = .error 25) := Lib.hid (by rw [HSZE.out, HST.out, steps_at HTI.out, HF.out]; simp only; rw [if_pos hu]; rfl)
          clear how
          have Bz := Below.refl wr.heap.size wr
          have p50_0 := (hnd.below (below_trans hB Bz)).c0 (u := .int .u8 y.kind) rfl
          have p50_1 := (hnd.below (below_trans hB Bz)).at 1 (.slice y.rA y.rn y.rc) rfl
          have p50_2 := (hnd.below (below_trans hB Bz)).at 2 (.slice y.bA y.bn y.bc) rfl
          have p50_3 := (hnd.below (below_trans hB Bz)).at 3 (.int .i64 y.ch) rfl
          have p50_4 := (hnd.below (below_trans hB Bz)).at 4 (.int .i64 y.high) rfl
          have p50_5 := (hnd.below (below_trans hB Bz)).at 5 (.int .i64 y.wide) rfl
          have p50_6 := (hnd.below (below_trans hB Bz)).at 6 (.int .i64 y.out) rfl
          have p50_7 := (hnd.below (below_trans hB Bz)).at 7 (.int .i64 y.kh) rfl
          have p50_8 := (hnd.below (below_trans hB Bz)).at 8 (.int .i64 y.kw) rfl
          have p50_9 := (hnd.below (below_trans hB Bz)).at 9 (.int .i64 y.st) rfl
          have p50_10 := (hnd.below (below_trans hB Bz)).at 10 (.int .i64 y.pad) rfl
          have p50_11 := (hnd.below (below_trans hB Bz)).at 11 (.slice y.kA y.kn y.kc) rfl
          have p50_12 := (hnd.below (below_trans hB Bz)).at 12 (.slice y.gA y.gn y.gc) rfl
          go_upto_region 8 with (fail)
          obtain ⟨V1, hW, x0, hN⟩ := boxes1 wr #[.int .u8 y.kind, .slice y.rA y.rn y.rc, .slice y.bA y.bn y.bc, .int .i64 y.ch, .int .i64 y.high, .int .i64 y.wide, .int .i64 y.out, .int .i64 y.kh, .int .i64 y.kw, .int .i64 y.st, .int .i64 y.pad, .slice y.kA y.kn y.kc, .slice y.gA y.gn y.gc] 38
          rw [← hW]
          clear hW
          obtain ⟨v0, hb0⟩ : ∃ b, b = wr.heap.size := ⟨_, rfl⟩
          rw [← hb0] at x0 ⊢
          have ow_0 : w.heap.size ≤ v0 := by have := hB.size; have := Bz.size; omega
          replace hoel := hoel.below hN
          replace hB := below_trans (below_trans hB Bz) hN
          have HX0 := Lib.hid x0
          clear x0 hN Bz hb0
          have Bz := Below.refl V1.heap.size V1
          clear p50_0 p50_1 p50_2 p50_3 p50_4 p50_5 p50_6 p50_7 p50_8 p50_9 p50_10 p50_11 p50_12
          have p0_0 := (HX0.out.below Bz).cell 0 (.int .u8 y.kind) rfl
          have p0_1 := (HX0.out.below Bz).cell 1 (.slice y.rA y.rn y.rc) rfl
          have p0_2 := (HX0.out.below Bz).cell 2 (.slice y.bA y.bn y.bc) rfl
          have p0_3 := (HX0.out.below Bz).cell 3 (.int .i64 y.ch) rfl
          have p0_4 := (HX0.out.below Bz).cell 4 (.int .i64 y.high) rfl
          have p0_5 := (HX0.out.below Bz).cell 5 (.int .i64 y.wide) rfl
          have p0_6 := (HX0.out.below Bz).cell 6 (.int .i64 y.out) rfl
          have p0_7 := (HX0.out.below Bz).cell 7 (.int .i64 y.kh) rfl
          have p0_8 := (HX0.out.below Bz).cell 8 (.int .i64 y.kw) rfl
          have p0_9 := (HX0.out.below Bz).cell 9 (.int .i64 y.st) rfl
          have p0_10 := (HX0.out.below Bz).cell 10 (.int .i64 y.pad) rfl
          have p0_11 := (HX0.out.below Bz).cell 11 (.slice y.kA y.kn y.kc) rfl
          have p0_12 := (HX0.out.below Bz).cell 12 (.slice y.gA y.gn y.gc) rfl
          have p51_0 := hoel.c0 (u := .int .i64 cur) rfl
          go_wp2_with fail
          (try simp only [List.append_eq, List.cons_append, List.nil_append])
          refine wp_region_plan (.take 0 (.pure 1 (.pure 2 (.pure 3 (.take 4 (.only 5 (.pure 6 (.pure 7 (.pure 8 (.pure 9 (.pure 10 (.pure 11 (.pure 12 .done))))))))))))) [] (fun w' => w'.cell? ⟨v0, 0, none⟩ = some (.int .u8 y.kind) ∧ w'.cell? ⟨v0, 1, none⟩ = some (.slice y.rA y.rn y.rc) ∧ w'.cell? ⟨v0, 2, none⟩ = some (.slice y.bA y.bn y.bc) ∧ w'.cell? ⟨v0, 3, none⟩ = some (.int .i64 y.ch) ∧ w'.cell? ⟨v0, 4, none⟩ = some (.int .i64 y.high) ∧ w'.cell? ⟨v0, 5, none⟩ = some (.int .i64 y.wide) ∧ w'.cell? ⟨v0, 6, none⟩ = some (.int .i64 y.out) ∧ w'.cell? ⟨v0, 7, none⟩ = some (.int .i64 y.kh) ∧ w'.cell? ⟨v0, 8, none⟩ = some (.int .i64 y.kw) ∧ w'.cell? ⟨v0, 9, none⟩ = some (.int .i64 y.st) ∧ w'.cell? ⟨v0, 10, none⟩ = some (.int .i64 y.pad) ∧ w'.cell? ⟨v0, 11, none⟩ = some (.slice y.kA y.kn y.kc) ∧ w'.cell? ⟨v0, 12, none⟩ = some (.slice y.gA y.gn y.gc) ∧ w'.cell? ⟨g, i, none⟩ = some (.int .i64 cur)) (by kernel_rfl) (by kernel_rfl) ⟨p0_0, p0_1, p0_2, p0_3, p0_4, p0_5, p0_6, p0_7, p0_8, p0_9, p0_10, p0_11, p0_12, p51_0⟩ ?_
          refine wpPlan_take (o := ⟨some 37, _, _, _, _, _⟩) (v := ?_) rfl rfl (fun w' hS => ?_) ?_
          rotate_left
          · obtain ⟨p0_0, p0_1, p0_2, p0_3, p0_4, p0_5, p0_6, p0_7, p0_8, p0_9, p0_10, p0_11, p0_12, p51_0⟩ := hS; go_simp <;> with_reducible rfl
          try simp only [Act.put, List.setIfInBounds_toArray, List.set_cons_zero, List.set_cons_succ]
          refine wpPlan_pure (o := ⟨some 38, _, _, _, _, _⟩) (v := ?_) rfl rfl (fun w' => ?_) ?_
          rotate_left
          · go_simp <;> with_reducible rfl
          try simp only [Act.put, List.setIfInBounds_toArray, List.set_cons_zero, List.set_cons_succ]
          refine wpPlan_pure (o := ⟨some 39, _, _, _, _, _⟩) (v := ?_) rfl rfl (fun w' => ?_) ?_
          rotate_left
          · go_simp <;> with_reducible rfl
          try simp only [Act.put, List.setIfInBounds_toArray, List.set_cons_zero, List.set_cons_succ]
          refine wpPlan_pure (o := ⟨some 40, _, _, _, _, _⟩) (v := ?_) rfl rfl (fun w' => ?_) ?_
          rotate_left
          · go_simp <;> with_reducible rfl
          try simp only [Act.put, List.setIfInBounds_toArray, List.set_cons_zero, List.set_cons_succ]
          refine wpPlan_take (o := ⟨some 41, _, _, _, _, _⟩) (v := ?_) rfl rfl (fun w' hS => ?_) ?_
          rotate_left
          · obtain ⟨p0_0, p0_1, p0_2, p0_3, p0_4, p0_5, p0_6, p0_7, p0_8, p0_9, p0_10, p0_11, p0_12, p51_0⟩ := hS; go_simp <;> with_reducible rfl
          try simp only [Act.put, List.setIfInBounds_toArray, List.set_cons_zero, List.set_cons_succ]
          refine wpPlan_call (o := ⟨some 42, _, _, _, _, _⟩) rfl rfl (fun K hK => ?_)
          go_simp
          with_reducible refine ((behind_q (HY.out.below (below_trans hB (below_trans (b := V1) Bz (by go_grown)))) hm (Lib.hid (Tab.below hT.out (below_trans hB (below_trans (b := V1) Bz (by go_grown)))))).mono fun _ _ hx => TellsB.yes hx HF.out).mono ?_
          rintro e w1 ⟨rfl, b1⟩
          replace b1 := below_trans (a := V1) (by go_grown) b1
          replace hoel := hoel.below b1
          replace Bz := below_trans Bz b1
          clear b1
          clear p0_0 p0_1 p0_2 p0_3 p0_4 p0_5 p0_6 p0_7 p0_8 p0_9 p0_10 p0_11 p0_12 p51_0
          have p0_0 := (HX0.out.below Bz).cell 0 (.int .u8 y.kind) rfl
          have p0_1 := (HX0.out.below Bz).cell 1 (.slice y.rA y.rn y.rc) rfl
          have p0_2 := (HX0.out.below Bz).cell 2 (.slice y.bA y.bn y.bc) rfl
          have p0_3 := (HX0.out.below Bz).cell 3 (.int .i64 y.ch) rfl
          have p0_4 := (HX0.out.below Bz).cell 4 (.int .i64 y.high) rfl
          have p0_5 := (HX0.out.below Bz).cell 5 (.int .i64 y.wide) rfl
          have p0_6 := (HX0.out.below Bz).cell 6 (.int .i64 y.out) rfl
          have p0_7 := (HX0.out.below Bz).cell 7 (.int .i64 y.kh) rfl
          have p0_8 := (HX0.out.below Bz).cell 8 (.int .i64 y.kw) rfl
          have p0_9 := (HX0.out.below Bz).cell 9 (.int .i64 y.st) rfl
          have p0_10 := (HX0.out.below Bz).cell 10 (.int .i64 y.pad) rfl
          have p0_11 := (HX0.out.below Bz).cell 11 (.slice y.kA y.kn y.kc) rfl
          have p0_12 := (HX0.out.below Bz).cell 12 (.slice y.gA y.gn y.gc) rfl
          have p51_0 := hoel.c0 (u := .int .i64 cur) rfl
          refine hK.out _ _ ⟨p0_0, p0_1, p0_2, p0_3, p0_4, p0_5, p0_6, p0_7, p0_8, p0_9, p0_10, p0_11, p0_12, p51_0⟩ (fun _ => ?_)
          try simp only [Act.put, List.setIfInBounds_toArray, List.set_cons_zero, List.set_cons_succ]
          clear hK K
          refine wpPlan_pure (o := ⟨some 36, _, _, _, _, _⟩) (v := ?_) rfl rfl (fun w' => ?_) ?_
          rotate_left
          · go_simp <;> with_reducible rfl
          try simp only [Act.put, List.setIfInBounds_toArray, List.set_cons_zero, List.set_cons_succ]
          refine wpPlan_pure (o := ⟨some 43, _, _, _, _, _⟩) (v := ?_) rfl rfl (fun w' => ?_) ?_
          rotate_left
          · go_simp <;> with_reducible rfl
          try simp only [Act.put, List.setIfInBounds_toArray, List.set_cons_zero, List.set_cons_succ]
          refine wpPlan_pure (o := ⟨some 44, _, _, _, _, _⟩) (v := ?_) rfl rfl (fun w' => ?_) ?_
          rotate_left
          · go_simp <;> with_reducible rfl
          try simp only [Act.put, List.setIfInBounds_toArray, List.set_cons_zero, List.set_cons_succ]
          refine wpPlan_pure (o := ⟨some 45, _, _, _, _, _⟩) (v := ?_) rfl rfl (fun w' => ?_) ?_
          rotate_left
          · go_simp <;> with_reducible rfl
          try simp only [Act.put, List.setIfInBounds_toArray, List.set_cons_zero, List.set_cons_succ]
          refine wpPlan_pure (o := ⟨some 8, _, _, _, _, _⟩) (v := ?_) rfl rfl (fun w' => ?_) ?_
          rotate_left
          · go_simp <;> with_reducible rfl
          try simp only [Act.put, List.setIfInBounds_toArray, List.set_cons_zero, List.set_cons_succ]
          refine wpPlan_pure (o := ⟨some 9, _, _, _, _, _⟩) (v := ?_) rfl rfl (fun w' => ?_) ?_
          rotate_left
          · go_simp <;> with_reducible rfl
          try simp only [Act.put, List.setIfInBounds_toArray, List.set_cons_zero, List.set_cons_succ]
          refine wpPlan_pure (o := ⟨some 10, _, _, _, _, _⟩) (v := ?_) rfl rfl (fun w' => ?_) ?_
          rotate_left
          · go_simp <;> with_reducible rfl
          try simp only [Act.put, List.setIfInBounds_toArray, List.set_cons_zero, List.set_cons_succ]
          refine wpPlan_done ?_
          go_wp2_with fail
          go_ret2
          have hF := below_trans (c := w1) hB Bz
          rw [HSZ.out]
          exact ⟨rfl, below_trans hF (by go_grown)⟩
        · by_cases ht : 16384 < s + t
          · have HSZ : Hid (sizesF inp L = .error 25) := Lib.hid (by rw [HSZE.out, HST.out, steps_at HTI.out, HF.out]; simp only; rw [if_neg hu, if_pos ht]; rfl)
            clear how
            have Bz := Below.refl wr.heap.size wr
            have p50_0 := (hnd.below (below_trans hB Bz)).c0 (u := .int .u8 y.kind) rfl
            have p50_1 := (hnd.below (below_trans hB Bz)).at 1 (.slice y.rA y.rn y.rc) rfl
            have p50_2 := (hnd.below (below_trans hB Bz)).at 2 (.slice y.bA y.bn y.bc) rfl
            have p50_3 := (hnd.below (below_trans hB Bz)).at 3 (.int .i64 y.ch) rfl
            have p50_4 := (hnd.below (below_trans hB Bz)).at 4 (.int .i64 y.high) rfl
            have p50_5 := (hnd.below (below_trans hB Bz)).at 5 (.int .i64 y.wide) rfl
            have p50_6 := (hnd.below (below_trans hB Bz)).at 6 (.int .i64 y.out) rfl
            have p50_7 := (hnd.below (below_trans hB Bz)).at 7 (.int .i64 y.kh) rfl
            have p50_8 := (hnd.below (below_trans hB Bz)).at 8 (.int .i64 y.kw) rfl
            have p50_9 := (hnd.below (below_trans hB Bz)).at 9 (.int .i64 y.st) rfl
            have p50_10 := (hnd.below (below_trans hB Bz)).at 10 (.int .i64 y.pad) rfl
            have p50_11 := (hnd.below (below_trans hB Bz)).at 11 (.slice y.kA y.kn y.kc) rfl
            have p50_12 := (hnd.below (below_trans hB Bz)).at 12 (.slice y.gA y.gn y.gc) rfl
            go_upto_region 8 with (fail)
            obtain ⟨V1, hW, x0, hN⟩ := boxes1 wr #[.int .u8 y.kind, .slice y.rA y.rn y.rc, .slice y.bA y.bn y.bc, .int .i64 y.ch, .int .i64 y.high, .int .i64 y.wide, .int .i64 y.out, .int .i64 y.kh, .int .i64 y.kw, .int .i64 y.st, .int .i64 y.pad, .slice y.kA y.kn y.kc, .slice y.gA y.gn y.gc] 38
            rw [← hW]
            clear hW
            obtain ⟨v0, hb0⟩ : ∃ b, b = wr.heap.size := ⟨_, rfl⟩
            rw [← hb0] at x0 ⊢
            have ow_0 : w.heap.size ≤ v0 := by have := hB.size; have := Bz.size; omega
            replace hoel := hoel.below hN
            replace hB := below_trans (below_trans hB Bz) hN
            have HX0 := Lib.hid x0
            clear x0 hN Bz hb0
            have Bz := Below.refl V1.heap.size V1
            clear p50_0 p50_1 p50_2 p50_3 p50_4 p50_5 p50_6 p50_7 p50_8 p50_9 p50_10 p50_11 p50_12
            have p0_0 := (HX0.out.below Bz).cell 0 (.int .u8 y.kind) rfl
            have p0_1 := (HX0.out.below Bz).cell 1 (.slice y.rA y.rn y.rc) rfl
            have p0_2 := (HX0.out.below Bz).cell 2 (.slice y.bA y.bn y.bc) rfl
            have p0_3 := (HX0.out.below Bz).cell 3 (.int .i64 y.ch) rfl
            have p0_4 := (HX0.out.below Bz).cell 4 (.int .i64 y.high) rfl
            have p0_5 := (HX0.out.below Bz).cell 5 (.int .i64 y.wide) rfl
            have p0_6 := (HX0.out.below Bz).cell 6 (.int .i64 y.out) rfl
            have p0_7 := (HX0.out.below Bz).cell 7 (.int .i64 y.kh) rfl
            have p0_8 := (HX0.out.below Bz).cell 8 (.int .i64 y.kw) rfl
            have p0_9 := (HX0.out.below Bz).cell 9 (.int .i64 y.st) rfl
            have p0_10 := (HX0.out.below Bz).cell 10 (.int .i64 y.pad) rfl
            have p0_11 := (HX0.out.below Bz).cell 11 (.slice y.kA y.kn y.kc) rfl
            have p0_12 := (HX0.out.below Bz).cell 12 (.slice y.gA y.gn y.gc) rfl
            have p51_0 := hoel.c0 (u := .int .i64 cur) rfl
            go_wp2_with fail
            (try simp only [List.append_eq, List.cons_append, List.nil_append])
            refine wp_region_plan (.take 0 (.pure 1 (.pure 2 (.pure 3 (.take 4 (.only 5 (.pure 6 (.pure 7 (.pure 8 (.pure 9 (.pure 10 (.pure 11 (.pure 12 .done))))))))))))) [] (fun w' => w'.cell? ⟨v0, 0, none⟩ = some (.int .u8 y.kind) ∧ w'.cell? ⟨v0, 1, none⟩ = some (.slice y.rA y.rn y.rc) ∧ w'.cell? ⟨v0, 2, none⟩ = some (.slice y.bA y.bn y.bc) ∧ w'.cell? ⟨v0, 3, none⟩ = some (.int .i64 y.ch) ∧ w'.cell? ⟨v0, 4, none⟩ = some (.int .i64 y.high) ∧ w'.cell? ⟨v0, 5, none⟩ = some (.int .i64 y.wide) ∧ w'.cell? ⟨v0, 6, none⟩ = some (.int .i64 y.out) ∧ w'.cell? ⟨v0, 7, none⟩ = some (.int .i64 y.kh) ∧ w'.cell? ⟨v0, 8, none⟩ = some (.int .i64 y.kw) ∧ w'.cell? ⟨v0, 9, none⟩ = some (.int .i64 y.st) ∧ w'.cell? ⟨v0, 10, none⟩ = some (.int .i64 y.pad) ∧ w'.cell? ⟨v0, 11, none⟩ = some (.slice y.kA y.kn y.kc) ∧ w'.cell? ⟨v0, 12, none⟩ = some (.slice y.gA y.gn y.gc) ∧ w'.cell? ⟨g, i, none⟩ = some (.int .i64 cur)) (by kernel_rfl) (by kernel_rfl) ⟨p0_0, p0_1, p0_2, p0_3, p0_4, p0_5, p0_6, p0_7, p0_8, p0_9, p0_10, p0_11, p0_12, p51_0⟩ ?_
            refine wpPlan_take (o := ⟨some 37, _, _, _, _, _⟩) (v := ?_) rfl rfl (fun w' hS => ?_) ?_
            rotate_left
            · obtain ⟨p0_0, p0_1, p0_2, p0_3, p0_4, p0_5, p0_6, p0_7, p0_8, p0_9, p0_10, p0_11, p0_12, p51_0⟩ := hS; go_simp <;> with_reducible rfl
            try simp only [Act.put, List.setIfInBounds_toArray, List.set_cons_zero, List.set_cons_succ]
            refine wpPlan_pure (o := ⟨some 38, _, _, _, _, _⟩) (v := ?_) rfl rfl (fun w' => ?_) ?_
            rotate_left
            · go_simp <;> with_reducible rfl
            try simp only [Act.put, List.setIfInBounds_toArray, List.set_cons_zero, List.set_cons_succ]
            refine wpPlan_pure (o := ⟨some 39, _, _, _, _, _⟩) (v := ?_) rfl rfl (fun w' => ?_) ?_
            rotate_left
            · go_simp <;> with_reducible rfl
            try simp only [Act.put, List.setIfInBounds_toArray, List.set_cons_zero, List.set_cons_succ]
            refine wpPlan_pure (o := ⟨some 40, _, _, _, _, _⟩) (v := ?_) rfl rfl (fun w' => ?_) ?_
            rotate_left
            · go_simp <;> with_reducible rfl
            try simp only [Act.put, List.setIfInBounds_toArray, List.set_cons_zero, List.set_cons_succ]
            refine wpPlan_take (o := ⟨some 41, _, _, _, _, _⟩) (v := ?_) rfl rfl (fun w' hS => ?_) ?_
            rotate_left
            · obtain ⟨p0_0, p0_1, p0_2, p0_3, p0_4, p0_5, p0_6, p0_7, p0_8, p0_9, p0_10, p0_11, p0_12, p51_0⟩ := hS; go_simp <;> with_reducible rfl
            try simp only [Act.put, List.setIfInBounds_toArray, List.set_cons_zero, List.set_cons_succ]
            refine wpPlan_call (o := ⟨some 42, _, _, _, _, _⟩) rfl rfl (fun K hK => ?_)
            go_simp
            with_reducible refine ((behind_q (HY.out.below (below_trans hB (below_trans (b := V1) Bz (by go_grown)))) hm (Lib.hid (Tab.below hT.out (below_trans hB (below_trans (b := V1) Bz (by go_grown)))))).mono fun _ _ hx => TellsB.yes hx HF.out).mono ?_
            rintro e w1 ⟨rfl, b1⟩
            replace b1 := below_trans (a := V1) (by go_grown) b1
            replace hoel := hoel.below b1
            replace Bz := below_trans Bz b1
            clear b1
            clear p0_0 p0_1 p0_2 p0_3 p0_4 p0_5 p0_6 p0_7 p0_8 p0_9 p0_10 p0_11 p0_12 p51_0
            have p0_0 := (HX0.out.below Bz).cell 0 (.int .u8 y.kind) rfl
            have p0_1 := (HX0.out.below Bz).cell 1 (.slice y.rA y.rn y.rc) rfl
            have p0_2 := (HX0.out.below Bz).cell 2 (.slice y.bA y.bn y.bc) rfl
            have p0_3 := (HX0.out.below Bz).cell 3 (.int .i64 y.ch) rfl
            have p0_4 := (HX0.out.below Bz).cell 4 (.int .i64 y.high) rfl
            have p0_5 := (HX0.out.below Bz).cell 5 (.int .i64 y.wide) rfl
            have p0_6 := (HX0.out.below Bz).cell 6 (.int .i64 y.out) rfl
            have p0_7 := (HX0.out.below Bz).cell 7 (.int .i64 y.kh) rfl
            have p0_8 := (HX0.out.below Bz).cell 8 (.int .i64 y.kw) rfl
            have p0_9 := (HX0.out.below Bz).cell 9 (.int .i64 y.st) rfl
            have p0_10 := (HX0.out.below Bz).cell 10 (.int .i64 y.pad) rfl
            have p0_11 := (HX0.out.below Bz).cell 11 (.slice y.kA y.kn y.kc) rfl
            have p0_12 := (HX0.out.below Bz).cell 12 (.slice y.gA y.gn y.gc) rfl
            have p51_0 := hoel.c0 (u := .int .i64 cur) rfl
            refine hK.out _ _ ⟨p0_0, p0_1, p0_2, p0_3, p0_4, p0_5, p0_6, p0_7, p0_8, p0_9, p0_10, p0_11, p0_12, p51_0⟩ (fun _ => ?_)
            try simp only [Act.put, List.setIfInBounds_toArray, List.set_cons_zero, List.set_cons_succ]
            clear hK K
            refine wpPlan_pure (o := ⟨some 36, _, _, _, _, _⟩) (v := ?_) rfl rfl (fun w' => ?_) ?_
            rotate_left
            · go_simp <;> with_reducible rfl
            try simp only [Act.put, List.setIfInBounds_toArray, List.set_cons_zero, List.set_cons_succ]
            refine wpPlan_pure (o := ⟨some 43, _, _, _, _, _⟩) (v := ?_) rfl rfl (fun w' => ?_) ?_
            rotate_left
            · go_simp <;> with_reducible rfl
            try simp only [Act.put, List.setIfInBounds_toArray, List.set_cons_zero, List.set_cons_succ]
            refine wpPlan_pure (o := ⟨some 44, _, _, _, _, _⟩) (v := ?_) rfl rfl (fun w' => ?_) ?_
            rotate_left
            · go_simp <;> with_reducible rfl
            try simp only [Act.put, List.setIfInBounds_toArray, List.set_cons_zero, List.set_cons_succ]
            refine wpPlan_pure (o := ⟨some 45, _, _, _, _, _⟩) (v := ?_) rfl rfl (fun w' => ?_) ?_
            rotate_left
            · go_simp <;> with_reducible rfl
            try simp only [Act.put, List.setIfInBounds_toArray, List.set_cons_zero, List.set_cons_succ]
            refine wpPlan_pure (o := ⟨some 8, _, _, _, _, _⟩) (v := ?_) rfl rfl (fun w' => ?_) ?_
            rotate_left
            · go_simp <;> with_reducible rfl
            try simp only [Act.put, List.setIfInBounds_toArray, List.set_cons_zero, List.set_cons_succ]
            refine wpPlan_pure (o := ⟨some 9, _, _, _, _, _⟩) (v := ?_) rfl rfl (fun w' => ?_) ?_
            rotate_left
            · go_simp <;> with_reducible rfl
            try simp only [Act.put, List.setIfInBounds_toArray, List.set_cons_zero, List.set_cons_succ]
            refine wpPlan_pure (o := ⟨some 10, _, _, _, _, _⟩) (v := ?_) rfl rfl (fun w' => ?_) ?_
            rotate_left
            · go_simp <;> with_reducible rfl
            try simp only [Act.put, List.setIfInBounds_toArray, List.set_cons_zero, List.set_cons_succ]
            refine wpPlan_done ?_
            go_wp2_with fail
            go_ret2
            have hF := below_trans (c := w1) hB Bz
            rw [HSZ.out]
            exact ⟨rfl, below_trans hF (by go_grown)⟩
          · have HNX : Hid (stepsF (L.drop i) cur s = (stepsF (L.drop (i + 1)) u (s + t)).map (cur :: ·)) := Lib.hid (by rw [steps_at HTI.out, HF.out]; simp only; rw [if_neg hu, if_neg ht])
            have Bz := Below.refl wr.heap.size wr
            have p50_0 := (hnd.below (below_trans hB Bz)).c0 (u := .int .u8 y.kind) rfl
            have p50_1 := (hnd.below (below_trans hB Bz)).at 1 (.slice y.rA y.rn y.rc) rfl
            have p50_2 := (hnd.below (below_trans hB Bz)).at 2 (.slice y.bA y.bn y.bc) rfl
            have p50_3 := (hnd.below (below_trans hB Bz)).at 3 (.int .i64 y.ch) rfl
            have p50_4 := (hnd.below (below_trans hB Bz)).at 4 (.int .i64 y.high) rfl
            have p50_5 := (hnd.below (below_trans hB Bz)).at 5 (.int .i64 y.wide) rfl
            have p50_6 := (hnd.below (below_trans hB Bz)).at 6 (.int .i64 y.out) rfl
            have p50_7 := (hnd.below (below_trans hB Bz)).at 7 (.int .i64 y.kh) rfl
            have p50_8 := (hnd.below (below_trans hB Bz)).at 8 (.int .i64 y.kw) rfl
            have p50_9 := (hnd.below (below_trans hB Bz)).at 9 (.int .i64 y.st) rfl
            have p50_10 := (hnd.below (below_trans hB Bz)).at 10 (.int .i64 y.pad) rfl
            have p50_11 := (hnd.below (below_trans hB Bz)).at 11 (.slice y.kA y.kn y.kc) rfl
            have p50_12 := (hnd.below (below_trans hB Bz)).at 12 (.slice y.gA y.gn y.gc) rfl
            go_upto_region 8 with (fail)
            obtain ⟨V1, hW, x0, hN⟩ := boxes1 wr #[.int .u8 y.kind, .slice y.rA y.rn y.rc, .slice y.bA y.bn y.bc, .int .i64 y.ch, .int .i64 y.high, .int .i64 y.wide, .int .i64 y.out, .int .i64 y.kh, .int .i64 y.kw, .int .i64 y.st, .int .i64 y.pad, .slice y.kA y.kn y.kc, .slice y.gA y.gn y.gc] 38
            rw [← hW]
            clear hW
            obtain ⟨v0, hb0⟩ : ∃ b, b = wr.heap.size := ⟨_, rfl⟩
            rw [← hb0] at x0 ⊢
            have ow_0 : w.heap.size ≤ v0 := by have := hB.size; have := Bz.size; omega
            replace hoel := hoel.below hN
            replace how := how.below hN
            replace hB := below_trans (below_trans hB Bz) hN
            have HX0 := Lib.hid x0
            clear x0 hN Bz hb0
            have Bz := Below.refl V1.heap.size V1
            clear p50_0 p50_1 p50_2 p50_3 p50_4 p50_5 p50_6 p50_7 p50_8 p50_9 p50_10 p50_11 p50_12
            have p0_0 := (HX0.out.below Bz).cell 0 (.int .u8 y.kind) rfl
            have p0_1 := (HX0.out.below Bz).cell 1 (.slice y.rA y.rn y.rc) rfl
            have p0_2 := (HX0.out.below Bz).cell 2 (.slice y.bA y.bn y.bc) rfl
            have p0_3 := (HX0.out.below Bz).cell 3 (.int .i64 y.ch) rfl
            have p0_4 := (HX0.out.below Bz).cell 4 (.int .i64 y.high) rfl
            have p0_5 := (HX0.out.below Bz).cell 5 (.int .i64 y.wide) rfl
            have p0_6 := (HX0.out.below Bz).cell 6 (.int .i64 y.out) rfl
            have p0_7 := (HX0.out.below Bz).cell 7 (.int .i64 y.kh) rfl
            have p0_8 := (HX0.out.below Bz).cell 8 (.int .i64 y.kw) rfl
            have p0_9 := (HX0.out.below Bz).cell 9 (.int .i64 y.st) rfl
            have p0_10 := (HX0.out.below Bz).cell 10 (.int .i64 y.pad) rfl
            have p0_11 := (HX0.out.below Bz).cell 11 (.slice y.kA y.kn y.kc) rfl
            have p0_12 := (HX0.out.below Bz).cell 12 (.slice y.gA y.gn y.gc) rfl
            have p51_0 := hoel.c0 (u := .int .i64 cur) rfl
            go_wp2_with fail
            (try simp only [List.append_eq, List.cons_append, List.nil_append])
            refine wp_region_plan (.take 0 (.pure 1 (.pure 2 (.pure 3 (.take 4 (.only 5 (.pure 6 (.pure 7 (.pure 8 (.pure 9 (.pure 10 (.pure 11 (.pure 12 .done))))))))))))) [] (fun w' => w'.cell? ⟨v0, 0, none⟩ = some (.int .u8 y.kind) ∧ w'.cell? ⟨v0, 1, none⟩ = some (.slice y.rA y.rn y.rc) ∧ w'.cell? ⟨v0, 2, none⟩ = some (.slice y.bA y.bn y.bc) ∧ w'.cell? ⟨v0, 3, none⟩ = some (.int .i64 y.ch) ∧ w'.cell? ⟨v0, 4, none⟩ = some (.int .i64 y.high) ∧ w'.cell? ⟨v0, 5, none⟩ = some (.int .i64 y.wide) ∧ w'.cell? ⟨v0, 6, none⟩ = some (.int .i64 y.out) ∧ w'.cell? ⟨v0, 7, none⟩ = some (.int .i64 y.kh) ∧ w'.cell? ⟨v0, 8, none⟩ = some (.int .i64 y.kw) ∧ w'.cell? ⟨v0, 9, none⟩ = some (.int .i64 y.st) ∧ w'.cell? ⟨v0, 10, none⟩ = some (.int .i64 y.pad) ∧ w'.cell? ⟨v0, 11, none⟩ = some (.slice y.kA y.kn y.kc) ∧ w'.cell? ⟨v0, 12, none⟩ = some (.slice y.gA y.gn y.gc) ∧ w'.cell? ⟨g, i, none⟩ = some (.int .i64 cur)) (by kernel_rfl) (by kernel_rfl) ⟨p0_0, p0_1, p0_2, p0_3, p0_4, p0_5, p0_6, p0_7, p0_8, p0_9, p0_10, p0_11, p0_12, p51_0⟩ ?_
            refine wpPlan_take (o := ⟨some 37, _, _, _, _, _⟩) (v := ?_) rfl rfl (fun w' hS => ?_) ?_
            rotate_left
            · obtain ⟨p0_0, p0_1, p0_2, p0_3, p0_4, p0_5, p0_6, p0_7, p0_8, p0_9, p0_10, p0_11, p0_12, p51_0⟩ := hS; go_simp <;> with_reducible rfl
            try simp only [Act.put, List.setIfInBounds_toArray, List.set_cons_zero, List.set_cons_succ]
            refine wpPlan_pure (o := ⟨some 38, _, _, _, _, _⟩) (v := ?_) rfl rfl (fun w' => ?_) ?_
            rotate_left
            · go_simp <;> with_reducible rfl
            try simp only [Act.put, List.setIfInBounds_toArray, List.set_cons_zero, List.set_cons_succ]
            refine wpPlan_pure (o := ⟨some 39, _, _, _, _, _⟩) (v := ?_) rfl rfl (fun w' => ?_) ?_
            rotate_left
            · go_simp <;> with_reducible rfl
            try simp only [Act.put, List.setIfInBounds_toArray, List.set_cons_zero, List.set_cons_succ]
            refine wpPlan_pure (o := ⟨some 40, _, _, _, _, _⟩) (v := ?_) rfl rfl (fun w' => ?_) ?_
            rotate_left
            · go_simp <;> with_reducible rfl
            try simp only [Act.put, List.setIfInBounds_toArray, List.set_cons_zero, List.set_cons_succ]
            refine wpPlan_take (o := ⟨some 41, _, _, _, _, _⟩) (v := ?_) rfl rfl (fun w' hS => ?_) ?_
            rotate_left
            · obtain ⟨p0_0, p0_1, p0_2, p0_3, p0_4, p0_5, p0_6, p0_7, p0_8, p0_9, p0_10, p0_11, p0_12, p51_0⟩ := hS; go_simp <;> with_reducible rfl
            try simp only [Act.put, List.setIfInBounds_toArray, List.set_cons_zero, List.set_cons_succ]
            refine wpPlan_call (o := ⟨some 42, _, _, _, _, _⟩) rfl rfl (fun K hK => ?_)
            go_simp
            with_reducible refine ((behind_q (HY.out.below (below_trans hB (below_trans (b := V1) Bz (by go_grown)))) hm (Lib.hid (Tab.below hT.out (below_trans hB (below_trans (b := V1) Bz (by go_grown)))))).mono fun _ _ hx => TellsB.yes hx HF.out).mono ?_
            rintro e w1 ⟨rfl, b1⟩
            replace b1 := below_trans (a := V1) (by go_grown) b1
            replace hoel := hoel.below b1
            replace how := how.below b1
            replace Bz := below_trans Bz b1
            clear b1
            clear p0_0 p0_1 p0_2 p0_3 p0_4 p0_5 p0_6 p0_7 p0_8 p0_9 p0_10 p0_11 p0_12 p51_0
            have p0_0 := (HX0.out.below Bz).cell 0 (.int .u8 y.kind) rfl
            have p0_1 := (HX0.out.below Bz).cell 1 (.slice y.rA y.rn y.rc) rfl
            have p0_2 := (HX0.out.below Bz).cell 2 (.slice y.bA y.bn y.bc) rfl
            have p0_3 := (HX0.out.below Bz).cell 3 (.int .i64 y.ch) rfl
            have p0_4 := (HX0.out.below Bz).cell 4 (.int .i64 y.high) rfl
            have p0_5 := (HX0.out.below Bz).cell 5 (.int .i64 y.wide) rfl
            have p0_6 := (HX0.out.below Bz).cell 6 (.int .i64 y.out) rfl
            have p0_7 := (HX0.out.below Bz).cell 7 (.int .i64 y.kh) rfl
            have p0_8 := (HX0.out.below Bz).cell 8 (.int .i64 y.kw) rfl
            have p0_9 := (HX0.out.below Bz).cell 9 (.int .i64 y.st) rfl
            have p0_10 := (HX0.out.below Bz).cell 10 (.int .i64 y.pad) rfl
            have p0_11 := (HX0.out.below Bz).cell 11 (.slice y.kA y.kn y.kc) rfl
            have p0_12 := (HX0.out.below Bz).cell 12 (.slice y.gA y.gn y.gc) rfl
            have p51_0 := hoel.c0 (u := .int .i64 cur) rfl
            refine hK.out _ _ ⟨p0_0, p0_1, p0_2, p0_3, p0_4, p0_5, p0_6, p0_7, p0_8, p0_9, p0_10, p0_11, p0_12, p51_0⟩ (fun _ => ?_)
            try simp only [Act.put, List.setIfInBounds_toArray, List.set_cons_zero, List.set_cons_succ]
            clear hK K
            refine wpPlan_pure (o := ⟨some 36, _, _, _, _, _⟩) (v := ?_) rfl rfl (fun w' => ?_) ?_
            rotate_left
            · go_simp <;> with_reducible rfl
            try simp only [Act.put, List.setIfInBounds_toArray, List.set_cons_zero, List.set_cons_succ]
            refine wpPlan_pure (o := ⟨some 43, _, _, _, _, _⟩) (v := ?_) rfl rfl (fun w' => ?_) ?_
            rotate_left
            · go_simp <;> with_reducible rfl
            try simp only [Act.put, List.setIfInBounds_toArray, List.set_cons_zero, List.set_cons_succ]
            refine wpPlan_pure (o := ⟨some 44, _, _, _, _, _⟩) (v := ?_) rfl rfl (fun w' => ?_) ?_
            rotate_left
            · go_simp <;> with_reducible rfl
            try simp only [Act.put, List.setIfInBounds_toArray, List.set_cons_zero, List.set_cons_succ]
            refine wpPlan_pure (o := ⟨some 45, _, _, _, _, _⟩) (v := ?_) rfl rfl (fun w' => ?_) ?_
            rotate_left
            · go_simp <;> with_reducible rfl
            try simp only [Act.put, List.setIfInBounds_toArray, List.set_cons_zero, List.set_cons_succ]
            refine wpPlan_pure (o := ⟨some 8, _, _, _, _, _⟩) (v := ?_) rfl rfl (fun w' => ?_) ?_
            rotate_left
            · go_simp <;> with_reducible rfl
            try simp only [Act.put, List.setIfInBounds_toArray, List.set_cons_zero, List.set_cons_succ]
            refine wpPlan_pure (o := ⟨some 9, _, _, _, _, _⟩) (v := ?_) rfl rfl (fun w' => ?_) ?_
            rotate_left
            · go_simp <;> with_reducible rfl
            try simp only [Act.put, List.setIfInBounds_toArray, List.set_cons_zero, List.set_cons_succ]
            refine wpPlan_pure (o := ⟨some 10, _, _, _, _, _⟩) (v := ?_) rfl rfl (fun w' => ?_) ?_
            rotate_left
            · go_simp <;> with_reducible rfl
            try simp only [Act.put, List.setIfInBounds_toArray, List.set_cons_zero, List.set_cons_succ]
            refine wpPlan_done ?_
            go_wp2_with (at_builtin; refine And.left (b := True) ?_)
            refine ⟨?_, trivial⟩
            obtain ⟨V2, hW, x1, hN⟩ := boxes1 w1 #[.int .i64 u] 3
            rw [← hW]
            clear hW
            obtain ⟨v1, hb1⟩ : ∃ b, b = w1.heap.size := ⟨_, rfl⟩
            rw [← hb1] at x1 ⊢
            have o0_1 : v0 < v1 := by have := (HX0.out.below Bz).lt; omega
            have ow_1 : w.heap.size ≤ v1 := by have := hB.size; have := Bz.size; omega
            replace how := how.below hN
            replace hB := below_trans (below_trans hB Bz) hN
            replace HX0 := Lib.hid ((HX0.out.below Bz).below hN)
            have HX1 := Lib.hid x1
            clear x1 hN Bz hb1
            have Bz := Below.refl V2.heap.size V2
            clear p0_0 p0_1 p0_2 p0_3 p0_4 p0_5 p0_6 p0_7 p0_8 p0_9 p0_10 p0_11 p0_12 p51_0
            refine Elt.app elt_int rfl _ _ rfl (w.heap.size) (.slice (some ⟨g, 0, none⟩) (i + 1) cap) (i + 1) (pre ++ [cur]) rfl how (.slice (some ⟨v1, 0, none⟩) 1 1) (1) ([u]) rfl (From.one (HX1.out.below Bz) (u) rfl (elt_int.len _)) (by omega) (by have := hB.size; have := Bz.size; omega) ?_
            intro H2 c2 w2 ho2 hg2
            replace hB := (below_trans hB Bz).trans (hg2.below (by have := hB.size; have := Bz.size; omega) (fun g hg => by have := how.base g hg; omega))
            clear HX0
            clear HX1
            clear hg2 Bz
            have Bz := Below.refl w2.heap.size w2
            go_wp2_with fail
            go_roundg (ln - (i + 1))
            case measure => have := HGK.out; omega
            case rel => exact ⟨i + 1, pre ++ [cur], u, s + t, _, _, by omega, rfl, by go_num, by have := HPL.out; simp; omega, rfl, ho2, rfl, by omega, by omega, by omega, by omega, by rw [HST.out, HNX.out, map_map_cons], below_trans hB Bz⟩
    · obtain rfl : i = ln := by omega
      have i1 : ¬ (i : Int) < (i : Int) := by omega
      have HSZ : Hid (sizesF inp L = .ok (pre ++ [cur])) := Lib.hid (by rw [HSZE.out, HST.out, List.drop_of_length_le (by rw [HLN.out]; exact Nat.le_refl _)]; rfl)
      have HO := Lib.hid how
      clear how
      go_wp2_with fail
      go_ret2
      rw [HSZ.out]
      exact ⟨_, _, _, rfl, HO.out.sl' elt_int (by have := HPL.out; simp; omega), hcap, hB⟩
theorem sizes_q {w : World} {m : Nat} {inp : Int} {lA : Option Addr} {ln lc : Nat} {L : List Ly} (h : Sl Ly.cs 13 w lA ln lc L) (hok : Hid (∀ y ∈ L, LyOk w m y)) (hm : m ≤ 20000) (hln : ln ≤ 9223372036854775807) (hT : Hid (Tab w)) :
    Calls Tryd.prog 41 #[.agg #[.int .i64 inp, .slice lA ln lc]] w (TellsZs w (sizesF inp L)) := by
  have hl := h.1
  by_cases g1 : inp < 1
  · exact sizes_0 g1 (Lib.hid (by unfold sizesF; rw [if_pos g1]))
  · by_cases g2 : 64 < inp
    · exact sizes_1 g1 g2 (Lib.hid (by unfold sizesF; rw [if_neg g1, if_pos g2]))
    · by_cases g3 : 16 < ln
      · exact sizes_2 g1 g2 g3 (Lib.hid (by unfold sizesF; rw [if_neg g1, if_neg g2, if_pos (show 16 < L.length by omega)]))
      · exact sizes_ok h hok hm hln g1 g2 g3 hT
end Go.Proofs.YtionhpangenhnaaDoor
