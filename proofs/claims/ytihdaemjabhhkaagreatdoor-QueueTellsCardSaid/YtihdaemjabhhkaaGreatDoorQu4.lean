/-
  The library's heap over a queue's items: down. Written by wip/gen/qu4.py.
-/
import Derived.Test.YtihdaemjabhhkaaGreatDoorQu3
namespace Go.Proofs.YtihdaemjabhhkaaGreatDoor
open Go.RowKit Tw Hp

section
variable {L : List Itm} {n i J K : Nat} {a bJ bK : Itm}
theorem par_1 (h : J = 2 * i + 1 ∧ K = J + 1) : par J = i := by unfold par; omega
theorem par_2 (h : J = 2 * i + 1 ∧ K = J + 1) : par K = i := by unfold par; omega
theorem kids {k : Nat} (h : J = 2 * i + 1 ∧ K = J + 1) (h0 : 0 < k) (hk : par k = i) : k = J ∨ k = K := by unfold par at hk; omega
theorem child_1 (S : Swo itLt) (hJ : ix L J = bJ) (hK : ix L K = bK) (h : itLt bK bJ = false) (e : J = 2 * i + 1 ∧ K = J + 1) : ∀ k, 0 < k → k < n → par k = i → itLt (ix L k) (ix L J) = false := fun k h0 _ hk => by
  rcases kids e h0 hk with rfl | rfl
  · exact S.irr _
  · rw [hJ, hK]; exact h
theorem child_2 (S : Swo itLt) (hJ : ix L J = bJ) (hK : ix L K = bK) (h : itLt bK bJ = true) (e : J = 2 * i + 1 ∧ K = J + 1) : ∀ k, 0 < k → k < n → par k = i → itLt (ix L k) (ix L K) = false := fun k h0 _ hk => by
  rcases kids e h0 hk with rfl | rfl
  · rw [hJ, hK]; exact S.asym _ _ h
  · exact S.irr _
theorem child_3 (S : Swo itLt) (_hJ : ix L J = bJ) (e : J = 2 * i + 1 ∧ K = J + 1) (hK : ¬ K < n) : ∀ k, 0 < k → k < n → par k = i → itLt (ix L k) (ix L J) = false := fun k h0 hn hk => by
  rcases kids e h0 hk with rfl | rfl
  · exact S.irr _
  · omega
theorem stop_at {c : Nat} {b : Itm} (S : Swo itLt) (ho : ∀ k, 0 < k → k < n → par k = i → itLt (ix L k) (ix L c) = false) (ha : ix L i = a) (hb : ix L c = b) (h : itLt b a = false) : ∀ k, 0 < k → k < n → par k = i → itLt (ix L k) (ix L i) = false := fun k h0 hn hk => by
  refine S.tr _ _ _ ?_ (ho k h0 hn hk)
  rw [ha, hb]; exact h
end
/-- A state of the loop of down. -/
def DownS (w : World) (qb g cap N n : Nat) (L : List Itm) (gk : Nat) (si : Value) (wr : World) : Prop :=
  ∃ i, i < N ∧ si = .int .i64 (i : Int) ∧ N - i = gk ∧ ∃ L', L'.Perm L ∧ DownInv itLt L' n i ∧ (∀ k, n ≤ k → ix L' k = ix L k) ∧ HQ wr qb g cap N L' ∧ Sh w wr g
/-- A heap again, of the first n. -/
def DownEnd (w : World) (qb g cap N n : Nat) (L : List Itm) (e : Ending) (w' : World) : Prop :=
  ∃ t, e = .returned (.bool t) ∧ ∃ L', L'.Perm L ∧ Heap itLt L' n ∧ (∀ k, n ≤ k → ix L' k = ix L k) ∧ HQ w' qb g cap N L' ∧ Sh w w' g
set_option maxRecDepth 100000 in
set_option maxHeartbeats 8000000 in
theorem down_q {w : World} {qb g cap N n : Nat} {L : List Itm} (h : HQ w qb g cap N L) (hu : DownInv itLt L n 0) (hnN : n ≤ N) (hN : 0 < N) :
    Calls Tryz.prog 115 #[.iface 112 (.pointer (some ⟨qb, 1, none⟩)), .int .i64 0, .int .i64 (n : Int)] w (DownEnd w qb g cap N n L) := by
  have H := Lib.hid h
  have HU := Lib.hid hu
  have hsm := h.small
  clear h hu
  go_enter Tryz.func115, Tryz.ntmps115
  go_wp2_with fail
  go_loopg [7] N (fun gk si wr => DownS w qb g cap N n L gk si wr)
  case atStart => exact ⟨0, hN, rfl, rfl, L, List.Perm.refl _, HU.out, fun _ _ => rfl, H.out, Sh.refl w g⟩
  case round =>
    clear HU H
    obtain ⟨i, hi, rfl, hgk, L1, hp, hu, ht, hq, hs⟩ := hrel
    have HGK := Lib.hid hgk
    have HP := Lib.hid hp
    have HU := Lib.hid hu
    have HT := Lib.hid ht
    have H := Lib.hid hq
    have HS := Lib.hid hs
    clear hp hu hq hs ht hgk
    obtain ⟨J, eJ⟩ : ∃ J, J = 2 * i + 1 := ⟨_, rfl⟩
    have e1 : (2 * (i : Int) + 1) = (J : Int) := by omega
    by_cases hJn : J < n
    · have q1 : decide (n ≤ J) = false := by simp; omega
      obtain ⟨K, eK⟩ : ∃ K, K = J + 1 := ⟨_, rfl⟩
      have e2 : ((J : Int) + 1) = (K : Int) := by omega
      have HJK : Hid (J = 2 * i + 1 ∧ K = J + 1) := Lib.hid ⟨eJ, eK⟩
      have hJ : J < N := by omega
      obtain ⟨a, ha⟩ : ∃ a, ix L1 i = a := ⟨_, rfl⟩
      obtain ⟨bJ, hbJ⟩ : ∃ b, ix L1 J = b := ⟨_, rfl⟩
      have HA := Lib.hid ha
      have HBJ := Lib.hid hbJ
      have c1 := H.out.cell
      have hKN : K ≤ N := by omega
      have hiJ : i < J := by omega
      have hiK : i < K := by omega
      clear eJ ha hbJ
      by_cases hKn : K < n
      · have hK : K < N := by omega
        obtain ⟨bK, hbK⟩ : ∃ b, ix L1 K = b := ⟨_, rfl⟩
        have HBK := Lib.hid hbK
        clear hbK eK
        cases hl1 : itLt bK bJ
        · have HL1 := Lib.hid hl1
          clear hl1
          have m1 := m_less ⟨qb, 1, none⟩ wr _ c1
          go_wp2_with fail
          with_reducible refine (less_x H.out hK hJ HBK.out HBJ.out _ _ rfl rfl false HL1.out).mono ?_
          rintro e w1 ⟨rfl, b1⟩
          have H1 := Lib.hid (H.out.below b1)
          have c1 := H1.out.cell
          replace m1 := m_less ⟨qb, 1, none⟩ w1 _ c1
          go_wp2_with fail
          cases hlt : itLt bJ a
          · have HL := Lib.hid hlt
            clear hlt
            with_reducible refine (less_x H1.out hJ hi HBJ.out HA.out _ _ rfl rfl false HL.out).mono ?_
            rintro e w2 ⟨rfl, b2⟩
            go_wp2_with fail
            go_ret
            refine ⟨_, rfl, L1, HP.out, ?_, HT.out, H1.out.below b2, HS.out.trans (Sh.of_below (below_trans b1 b2))⟩
            exact HU.out.done (stop_at swo_it (child_1 swo_it HBJ.out HBK.out HL1.out HJK.out) HA.out HBJ.out HL.out)
          · have HL := Lib.hid hlt
            clear hlt
            with_reducible refine (less_x H1.out hJ hi HBJ.out HA.out _ _ rfl rfl true HL.out).mono ?_
            rintro e w2 ⟨rfl, b2⟩
            have H2 := Lib.hid (H1.out.below b2)
            have c1 := H2.out.cell
            have m2 := m_swap ⟨qb, 1, none⟩ w2 _ c1
            clear m1
            go_wp2_with fail
            with_reducible refine (swap_x H2.out hi hJ _ _ rfl rfl).mono ?_
            rintro e w3 ⟨rfl, h3, s3⟩
            have H3 := Lib.hid h3
            have S3 := Lib.hid s3
            clear h3 s3 c1 m2
            go_wp2_with fail
            go_roundg (N - J)
            case measure => have := HJK.out; have := HGK.out; omega
            case rel =>
              refine ⟨J, hJ, rfl, ?_, swp L1 i J, (swp_perm L1 (by rw [H.out.len]; exact hi) (by rw [H.out.len]; exact hJ)).trans HP.out, ?_, ?_, H3.out, (HS.out.trans (Sh.of_below (below_trans b1 b2))).trans S3.out⟩
              · rfl
              · exact HU.out.step swo_it (by rw [H.out.len]; exact hnN) hJn (by have := HJK.out; omega) (par_1 HJK.out) (by rw [HBJ.out, HA.out]; exact HL.out) (child_1 swo_it HBJ.out HBK.out HL1.out HJK.out)
              · intro k hk; rw [ix_swp_o (by omega) (by omega)]; exact HT.out k hk
        · have HL1 := Lib.hid hl1
          clear hl1
          have m1 := m_less ⟨qb, 1, none⟩ wr _ c1
          go_wp2_with fail
          with_reducible refine (less_x H.out hK hJ HBK.out HBJ.out _ _ rfl rfl true HL1.out).mono ?_
          rintro e w1 ⟨rfl, b1⟩
          have H1 := Lib.hid (H.out.below b1)
          have c1 := H1.out.cell
          replace m1 := m_less ⟨qb, 1, none⟩ w1 _ c1
          go_wp2_with fail
          cases hlt : itLt bK a
          · have HL := Lib.hid hlt
            clear hlt
            with_reducible refine (less_x H1.out hK hi HBK.out HA.out _ _ rfl rfl false HL.out).mono ?_
            rintro e w2 ⟨rfl, b2⟩
            go_wp2_with fail
            go_ret
            refine ⟨_, rfl, L1, HP.out, ?_, HT.out, H1.out.below b2, HS.out.trans (Sh.of_below (below_trans b1 b2))⟩
            exact HU.out.done (stop_at swo_it (child_2 swo_it HBJ.out HBK.out HL1.out HJK.out) HA.out HBK.out HL.out)
          · have HL := Lib.hid hlt
            clear hlt
            with_reducible refine (less_x H1.out hK hi HBK.out HA.out _ _ rfl rfl true HL.out).mono ?_
            rintro e w2 ⟨rfl, b2⟩
            have H2 := Lib.hid (H1.out.below b2)
            have c1 := H2.out.cell
            have m2 := m_swap ⟨qb, 1, none⟩ w2 _ c1
            clear m1
            go_wp2_with fail
            with_reducible refine (swap_x H2.out hi hK _ _ rfl rfl).mono ?_
            rintro e w3 ⟨rfl, h3, s3⟩
            have H3 := Lib.hid h3
            have S3 := Lib.hid s3
            clear h3 s3 c1 m2
            go_wp2_with fail
            go_roundg (N - K)
            case measure => have := HJK.out; have := HGK.out; omega
            case rel =>
              refine ⟨K, hK, rfl, ?_, swp L1 i K, (swp_perm L1 (by rw [H.out.len]; exact hi) (by rw [H.out.len]; exact hK)).trans HP.out, ?_, ?_, H3.out, (HS.out.trans (Sh.of_below (below_trans b1 b2))).trans S3.out⟩
              · rfl
              · exact HU.out.step swo_it (by rw [H.out.len]; exact hnN) hKn (by have := HJK.out; omega) (par_2 HJK.out) (by rw [HBK.out, HA.out]; exact HL.out) (child_2 swo_it HBJ.out HBK.out HL1.out HJK.out)
              · intro k hk; rw [ix_swp_o (by omega) (by omega)]; exact HT.out k hk
      · clear eK
        have m1 := m_less ⟨qb, 1, none⟩ wr _ c1
        go_wp2_with fail
        cases hlt : itLt bJ a
        · have HL := Lib.hid hlt
          clear hlt
          with_reducible refine (less_x H.out hJ hi HBJ.out HA.out _ _ rfl rfl false HL.out).mono ?_
          rintro e w2 ⟨rfl, b2⟩
          go_wp2_with fail
          go_ret
          refine ⟨_, rfl, L1, HP.out, ?_, HT.out, H.out.below b2, HS.out.trans (Sh.of_below b2)⟩
          exact HU.out.done (stop_at swo_it (child_3 swo_it HBJ.out HJK.out hKn) HA.out HBJ.out HL.out)
        · have HL := Lib.hid hlt
          clear hlt
          with_reducible refine (less_x H.out hJ hi HBJ.out HA.out _ _ rfl rfl true HL.out).mono ?_
          rintro e w2 ⟨rfl, b2⟩
          have H2 := Lib.hid (H.out.below b2)
          have c1 := H2.out.cell
          have m2 := m_swap ⟨qb, 1, none⟩ w2 _ c1
          clear m1
          go_wp2_with fail
          with_reducible refine (swap_x H2.out hi hJ _ _ rfl rfl).mono ?_
          rintro e w3 ⟨rfl, h3, s3⟩
          have H3 := Lib.hid h3
          have S3 := Lib.hid s3
          clear h3 s3 c1 m2
          go_wp2_with fail
          go_roundg (N - J)
          case measure => have := HJK.out; have := HGK.out; omega
          case rel =>
            refine ⟨J, hJ, rfl, ?_, swp L1 i J, (swp_perm L1 (by rw [H.out.len]; exact hi) (by rw [H.out.len]; exact hJ)).trans HP.out, ?_, ?_, H3.out, (HS.out.trans (Sh.of_below b2)).trans S3.out⟩
            · rfl
            · exact HU.out.step swo_it (by rw [H.out.len]; exact hnN) hJn (by have := HJK.out; omega) (par_1 HJK.out) (by rw [HBJ.out, HA.out]; exact HL.out) (child_3 swo_it HBJ.out HJK.out hKn)
            · intro k hk; rw [ix_swp_o (by omega) (by omega)]; exact HT.out k hk
    · have q1 : decide (n ≤ J) = true := by simp; omega
      have HJ : Hid (J = 2 * i + 1) := Lib.hid eJ
      clear eJ
      go_wp2_with fail
      go_ret
      exact ⟨_, rfl, L1, HP.out, HU.out.done (fun k k0 kn kp => by exfalso; have := HJ.out; unfold par at kp; omega), HT.out, H.out, HS.out⟩
end Go.Proofs.YtihdaemjabhhkaaGreatDoor
