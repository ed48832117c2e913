/-
  The reference of layer 1: digits of 8 bits in memory; trim, cmp.
-/
import Derived.Test.YtjlfcnkndndgaaaDoorV
import Derived.Test.YtjlfcnkndndgaaaDoorNum8
import Derived.OwnWalk
namespace Go.Proofs.YtjlfcnkndndgaaaDoor
open Go.RowKit Tw

/-- The slice at A reads as the digits of 8 bits xs; its capacity is c. -/
structure Sm (w : World) (A : Option Addr) (c : Nat) (xs : List Nat) : Prop where
  ok : Te.Ok xs
  le : xs.length ≤ c
  none_ : A = none → c = 0
  cells : 0 < xs.length → ∃ b off, A = some ⟨b, off, none⟩ ∧ ∀ k, k < xs.length → w.cell? ⟨b, off + k, none⟩ = some (.int .i64 (dg xs k))

theorem Sm.keep {w w' : World} {A : Option Addr} {c : Nat} {xs : List Nat} (h : Sm w A c xs) (hk : ∀ p v, (∃ a, A = some a ∧ a.block = p.block) → w.cell? p = some v → w'.cell? p = some v) : Sm w' A c xs :=
  ⟨h.ok, h.le, h.none_, fun hp => by
    obtain ⟨b, off, rfl, hc⟩ := h.cells hp
    exact ⟨b, off, rfl, fun k hkl => hk _ _ ⟨_, rfl, rfl⟩ (hc k hkl)⟩⟩
theorem Sm.below {w w' : World} {A : Option Addr} {c : Nat} {xs : List Nat} (h : Sm w A c xs) (hb : Below w.heap.size w w') : Sm w' A c xs :=
  h.keep fun p _ _ hc => (hb.cell (World.block_lt_of_cell? w p hc)).trans hc
theorem Sm.drewN {w : World} {A : Option Addr} {c : Nat} {xs : List Nat} (h : Sm w A c xs) (n : Nat) : Sm (w.drewN n) A c xs := ⟨h.ok, h.le, h.none_, h.cells⟩
theorem Sm.nil (w : World) : Sm w none 0 [] := ⟨Te.Ok.nil, Nat.zero_le _, fun _ => rfl, fun h => absurd h (by simp)⟩
theorem Sm.front {w : World} {A : Option Addr} {c : Nat} {xs : List Nat} (h : Sm w A c xs) (n : Nat) : Sm w A c (xs.take n) :=
  ⟨h.ok.take n, Nat.le_trans (by simp [List.length_take]; omega) h.le, h.none_, fun hp => by
    rw [List.length_take] at hp
    obtain ⟨b, off, rfl, hc⟩ := h.cells (by omega)
    refine ⟨b, off, rfl, fun k hk => ?_⟩
    rw [List.length_take] at hk
    rw [hc k (by omega)]
    unfold dg
    rw [List.getD_eq_getElem?_getD, List.getD_eq_getElem?_getD, List.getElem?_take, if_pos (by omega)]⟩
/-- The one form of n in digits of 8 bits. -/
def D (w : World) (A : Option Addr) (c l n : Nat) : Prop := Sm w A c (Te.limbs n) ∧ Te.nl n = l
theorem D.below {w w' : World} {A : Option Addr} {c l n : Nat} (h : D w A c l n) (hb : Below w.heap.size w w') : D w' A c l n := ⟨h.1.below hb, h.2⟩
/-- A number told in digits of 8 bits. -/
def TellsD (w : World) (n : Nat) (e : Ending) (w' : World) : Prop := ∃ A c l, e = .returned (.slice A l c) ∧ D w' A c l n ∧ Below w.heap.size w w'
/-- The same, in new memory. -/
def TellsN (w : World) (n : Nat) (e : Ending) (w' : World) : Prop := ∃ A c l, e = .returned (.slice A l c) ∧ D w' A c l n ∧ Below w.heap.size w w' ∧ ∀ a, A = some a → w.heap.size ≤ a.block
theorem TellsN.d {w : World} {n : Nat} {e : Ending} {w' : World} (h : TellsN w n e w') : TellsD w n e w' := by
  obtain ⟨A, c, l, h1, h2, h3, _⟩ := h
  exact ⟨A, c, l, h1, h2, h3⟩
/-- A row of digits of 8 bits of the call's own. -/
def OwnS (w : World) (B : Nat) (v : Value) (ds : List Nat) : Prop := w.ownsRow B 3 1 v ds.length (ds.map fun (d : Nat) => Value.int .i64 (d : Int))
theorem OwnS.sm {w : World} {B : Nat} {v : Value} {ds : List Nat} (h : OwnS w B v ds) (ho : Te.Ok ds) : ∃ A c, v = .slice A ds.length c ∧ Sm w A c ds := by
  obtain ⟨hl, ⟨rfl, h0⟩ | ⟨g, cap, cur, rfl, hB, hc, hn, hm, hs, ht⟩⟩ := h
  · obtain rfl : ds = [] := List.eq_nil_of_length_eq_zero h0
    exact ⟨none, 0, rfl, Sm.nil _⟩
  · refine ⟨_, cap, rfl, ho, hn, (fun h => by cases h), fun _ => ⟨g, 0, rfl, fun k hk => ?_⟩⟩
    have h1 : (cur.toList.take (ds.length * 1))[k]? = some (Value.int .i64 (dg ds k)) := by
      rw [ht, List.getElem?_map, dg_get hk]; rfl
    rw [List.getElem?_take, if_pos (by omega)] at h1
    simp only [World.cell?, hc, Nat.zero_add]
    simpa using h1

theorem OwnS.new {w : World} {B l c : Nat} {A : Option Addr} {ds : List Nat} (h : OwnS w B (.slice A l c) ds) : ∀ a, A = some a → B ≤ a.block := fun a e => by
  subst e
  exact (World.ownsRow.lt h a.block rfl).1
theorem ret_sl {A : Option Addr} {l l' c : Nat} (h : l = l') : Ending.returned (.slice A l c) = .returned (.slice A l' c) := by rw [h]
theorem trim8_any (A : Option Addr) (c : Nat) (xs : List Nat) (w : World) (h : Sm w A c xs) (hs : xs.length ≤ 8000000) :
    Calls Tryd.prog 83 #[.slice A xs.length c] w fun e w' => e = .returned (.slice A (Te.nl (Te.val xs)) c) ∧ w = w' := by
  obtain ⟨ho, hc, hn0, hcl⟩ := h
  have HO := Lib.hid ho
  have HC := Lib.hid hcl
  have HN := Lib.hid hn0
  have HL : Hid (Te.nl (Te.val xs) ≤ xs.length) := Lib.hid (Te.nl_val ho)
  clear ho hcl hn0
  go_enter Tryd.func83, Tryd.ntmps83
  go_wp2
  go_loop [3] (fun t => ∃ k : Nat, k ≤ xs.length ∧ t = .int .i64 k ∧ Te.ZeroFrom xs k) (fun t => (intOf t).toNat)
  case atStart => exact ⟨xs.length, Nat.le_refl _, rfl, Te.ZeroFrom.start xs⟩
  case round =>
    obtain ⟨k, hk, rfl, hz⟩ := hrel
    rcases Nat.eq_zero_or_pos k with rfl | hkp
    · have e0 : 0 = Te.nl (Te.val xs) := hz.done HO.out (by omega) (.inl rfl)
      have E0 := Lib.hid e0
      clear e0
      cases A with
      | none =>
        have c0 := HN.out rfl
        subst c0
        go_wp2
        go_ret
        exact ⟨ret_sl E0.out, rfl⟩
      | some ad =>
        go_wp2
        go_ret
        exact ⟨ret_sl E0.out, rfl⟩
    · obtain ⟨j, rfl⟩ : ∃ j, k = j + 1 := ⟨k - 1, by omega⟩
      obtain ⟨b, off, rfl, hcell⟩ := HC.out (by omega)
      have hcell := hcell j (by omega)
      by_cases hd : dg xs j = 0
      · have hd1 : (((dg xs j : Nat) : Int) == 0) = true := by simp [hd]
        have HD := Lib.hid hd
        clear hd
        go_wp2
        go_round
        case rel => exact ⟨j, by omega, by go_num, hz.down HD.out⟩
        case measure => simp [intOf]
      · have hd1 : (((dg xs j : Nat) : Int) == 0) = false := by simp [hd]
        have HD := Lib.hid hd
        clear hd
        go_wp2
        go_ret
        exact ⟨ret_sl (hz.done HO.out (by omega) (.inr HD.out)), rfl⟩

theorem cmpI_nat_lt {a b : Nat} (h : a < b) : cmpI (a : Int) (b : Int) = -1 := cmpI_lt (by omega)
/-- cmp: of digits of 8 bits in the one form. -/
theorem cmp8_ne (A A' : Option Addr) (c c' l l' n n' : Nat) (w : World) (h : D w A c l n) (h' : D w A' c' l' n') (_hs : l ≤ 8000000) (_hs' : l' ≤ 8000000) (hne : l ≠ l') (z : Int) (hz : Hid (cmpI (n : Int) (n' : Int) = z)) :
    Calls Tryd.prog 81 #[.slice A l c, .slice A' l' c'] w fun e w' => e = .returned (.int .i64 z) ∧ ∃ k, w' = w.drewN k := by
  have h1 : ((l : Int) != (l' : Int)) = true := by rw [bne_iff_ne]; omega
  obtain ⟨_, e1⟩ := h
  obtain ⟨_, e2⟩ := h'
  rcases Nat.lt_or_gt_of_ne hne with hlt | hlt
  · have h2 : decide (l < l') = true := by simpa using hlt
    have hz' : -1 = z := by rw [← hz.out]; exact (cmpI_nat_lt (Te.lt_of_nl (by omega))).symm
    clear e1 e2 hne hz
    subst hz'
    go_enter Tryd.func81, Tryd.ntmps81
    go_wp2_with fail
    go_ret
    exact ⟨rfl, 0, rfl⟩
  · have h2 : decide (l < l') = false := by simp; omega
    have hz' : 1 = z := by rw [← hz.out]; exact (cmpI_gt (by have := Te.lt_of_nl (a := n') (b := n) (by omega); omega)).symm
    clear e1 e2 hne hz
    subst hz'
    go_enter Tryd.func81, Tryd.ntmps81
    go_wp2_with fail
    go_ret
    exact ⟨rfl, 0, rfl⟩
set_option maxHeartbeats 1000000 in
theorem cmp8_eq (A A' : Option Addr) (c c' l n n' : Nat) (w : World) (h : D w A c l n) (h' : D w A' c' l n') (hs : l ≤ 8000000) (z : Int) (hz : Hid (cmpI (n : Int) (n' : Int) = z)) :
    Calls Tryd.prog 81 #[.slice A l c, .slice A' l c'] w fun e w' => e = .returned (.int .i64 z) ∧ ∃ k, w' = w.drewN k := by
  have h1 : ((l : Int) != (l : Int)) = false := by simp
  obtain ⟨h, e1⟩ := h
  obtain ⟨h', e2⟩ := h'
  have HA := Lib.hid (Te.Agree.start (Te.ok_limbs n) (Te.ok_limbs n') (by rw [Te.val_limbs, Te.val_limbs]; omega))
  have HL : Hid ((Te.limbs n).length = l) := e1
  have HL' : Hid ((Te.limbs n').length = l) := e2
  have HC := Lib.hid h.cells
  have HC' := Lib.hid h'.cells
  have H1 := Lib.hid e1
  clear h h' e1 e2
  go_enter Tryd.func81, Tryd.ntmps81
  go_wp2_with fail
  go_loopw [5] (fun i wr => ∃ k m : Nat, k ≤ l ∧ i = .int .i64 ((k : Int) - 1) ∧ wr = w.drewN m ∧ Te.Agree (Te.limbs n) (Te.limbs n') k) (fun i _ => ((intOf i) + 1).toNat)
  case atStart => exact ⟨l, 0, Nat.le_refl _, rfl, rfl, by have := HA.out; rw [Te.val_limbs, H1.out] at this; exact this⟩
  case round =>
    obtain ⟨k, m, hk, rfl, rfl, hag⟩ := hrel
    rcases Nat.eq_zero_or_pos k with rfl | hkp
    · have hz' : 0 = z := by rw [← hz.out]; have := hag.all; rw [Te.val_limbs, Te.val_limbs] at this; rw [this]; exact (cmpI_eq _).symm
      clear hz
      subst hz'
      go_wp2_with fail
      go_ret
      exact ⟨rfl, m, rfl⟩
    · obtain ⟨j, rfl⟩ : ∃ j, k = j + 1 := ⟨k - 1, by omega⟩
      obtain ⟨b, off, rfl, hcell⟩ := HC.out (by rw [HL.out]; omega)
      obtain ⟨b', off', rfl, hcell'⟩ := HC'.out (by rw [HL'.out]; omega)
      have c1 := hcell j (by rw [HL.out]; omega)
      have c2 := hcell' j (by rw [HL'.out]; omega)
      have i1 : (0 : Int) ≤ (j : Int) := by omega
      have i2 : (j : Int) < l := by omega
      have ej : ((j + 1 : Nat) : Int) - 1 = (j : Int) := by omega
      rw [ej]
      have HAG := Lib.hid hag
      clear hcell hcell' ej hag
      rcases Nat.lt_trichotomy (dg (Te.limbs n) j) (dg (Te.limbs n') j) with hd | hd | hd
      · have t1 : decide (dg (Te.limbs n) j < dg (Te.limbs n') j) = true := by simpa using hd
        have hz' : -1 = z := by
          rw [← hz.out]
          have := Te.Agree.less (Te.ok_limbs n) HAG.out hd
          rw [Te.val_limbs, Te.val_limbs] at this
          exact (cmpI_nat_lt this).symm
        clear hz hd
        subst hz'
        go_wp2_with fail
        go_quiet (fail)
        go_wp2_with fail
        go_ret
        exact ⟨rfl, _, by rw [World.drewN_drewN]⟩
      · have t1 : decide (dg (Te.limbs n) j < dg (Te.limbs n') j) = false := by simp; omega
        have t2 : decide (dg (Te.limbs n') j < dg (Te.limbs n) j) = false := by simp; omega
        have HD := Lib.hid hd
        clear hd
        go_wp2_with fail
        go_quiet (fail)
        go_wp2_with fail
        go_quiet (fail)
        go_wp2_with fail
        go_roundw
        case rel => exact ⟨j, _, by omega, by go_num, rfl, HAG.out.down HD.out⟩
        case measure => simp [intOf]
      · have t1 : decide (dg (Te.limbs n) j < dg (Te.limbs n') j) = false := by simp; omega
        have t2 : decide (dg (Te.limbs n') j < dg (Te.limbs n) j) = true := by simpa using hd
        have hz' : 1 = z := by
          rw [← hz.out]
          have := Te.Agree.less (Te.ok_limbs n') HAG.out.symm hd
          rw [Te.val_limbs, Te.val_limbs] at this
          exact (cmpI_gt (by omega)).symm
        clear hz hd
        subst hz'
        go_wp2_with fail
        go_quiet (fail)
        go_wp2_with fail
        go_quiet (fail)
        go_wp2_with fail
        go_ret
        exact ⟨rfl, _, by rw [World.drewN_drewN, World.drewN_drewN]⟩
theorem cmp8_d {A A' : Option Addr} {c c' l l' n n' : Nat} {w : World} (h : D w A c l n) (h' : D w A' c' l' n') (hs : l ≤ 8000000) (hs' : l' ≤ 8000000) (z : Int) (hz : Hid (cmpI (n : Int) (n' : Int) = z)) :
    Calls Tryd.prog 81 #[.slice A l c, .slice A' l' c'] w fun e w' => e = .returned (.int .i64 z) ∧ ∃ k, w' = w.drewN k := by
  by_cases hl : l = l'
  · subst hl; exact cmp8_eq A A' c c' l n n' w h h' hs z hz
  · exact cmp8_ne A A' c c' l l' n n' w h h' hs hs' hl z hz
end Go.Proofs.YtjlfcnkndndgaaaDoor
