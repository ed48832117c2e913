/-
  Contract of limbs: DivMod.
-/
import Derived.Test.YtjlfcnkndndgaaaDoorLong
import Derived.Deep.RegionHeld3
namespace Go.Proofs.YtjlfcnkndndgaaaDoor
open Go.RowKit Tw

theorem divmod_zero (A A' : Option Addr) (c c' : Nat) (xs ys : List Nat) (w : World) (h' : Nums w A' c' ys) (hs' : ys.length ≤ 900000) (hy : val ys = 0) :
    Calls Tryd.prog 16 #[.slice A xs.length c, .slice A' ys.length c'] w (Ret2 w 0 0) := by
  have HU := Lib.hid (used_any A' c' ys w h' (by omega))
  rw [hy, nl_zero] at HU
  clear hy
  go_enter Tryd.func16, Tryd.ntmps16
  go_wp2_with fail
  refine HU.out.mono ?_; rintro e w1 ⟨rfl, rfl⟩
  go_wp2_with fail
  go_ret2
  exact ⟨none, 0, none, 0, rfl, .inl ⟨rfl, rfl, rfl⟩, .inl ⟨rfl, rfl, rfl⟩, Below.refl _ _⟩

theorem divmod_less (A A' : Option Addr) (c c' : Nat) (xs ys : List Nat) (w : World) (h : Nums w A c xs) (h' : Nums w A' c' ys) (hs : xs.length ≤ 900000) (hs' : ys.length ≤ 900000) (hlt : val xs < val ys) :
    Calls Tryd.prog 16 #[.slice A xs.length c, .slice A' ys.length c'] w (Ret2 w (val xs / val ys) (val xs % val ys)) := by
  rw [Nat.div_eq_of_lt hlt, Nat.mod_eq_of_lt hlt]
  have HU := Lib.hid (used_any A' c' ys w h' (by omega))
  have p1 : (((nl (val ys) : Nat) : Int) == 0) = false := by simp [nl_eq_zero]; omega
  have HC := Lib.hid (cmp_any A A' c c' xs ys w h h' (by omega) (by omega))
  have t : decide (cmpI ((val xs : Nat) : Int) ((val ys : Nat) : Int) < 0) = true := by rw [cmpI_lt (by omega)]; rfl
  clear hlt
  go_enter Tryd.func16, Tryd.ntmps16
  go_wp2_with fail
  refine HU.out.mono ?_; rintro e w1 ⟨rfl, rfl⟩
  go_wp2_with fail
  refine HC.out.mono ?_; rintro e w1 ⟨rfl, m, rfl⟩
  go_wp2_with fail
  refine (trim_any A c xs _ (h.drewN m) (by omega)).mono ?_; rintro e w1 ⟨A1, c1, rfl, ho1, hb1⟩
  go_wp2_with fail
  go_ret2
  exact ⟨none, 0, A1, c1, rfl, .inl ⟨rfl, rfl, rfl⟩, ho1, (below_drewN (Below.refl _ _) m).trans hb1⟩

/-- A number of one digit is that digit. -/
theorem one_digit {ys : List Nat} (h : Ok ys) (hn : nl (val ys) = 1) : val ys = dg ys 0 ∧ 0 < dg ys 0 := by
  have e2 := val_take_nl h (n := 1) (by omega)
  have e3 := val_take_succ' ys 0
  rw [Nat.zero_add, e2, List.take_zero, val_nil, Nat.zero_add, Nat.pow_zero, Nat.one_mul] at e3
  have e4 : val ys = dg ys 0 := e3
  refine ⟨e4, ?_⟩
  rw [← e4]
  rcases Nat.eq_zero_or_pos (val ys) with e | e
  · rw [e, nl_zero] at hn; omega
  · exact e
theorem short_front (A : Option Addr) (c : Nat) (xs ys : List Nat) (W : World) (hW : Nums W A c xs) (hs : xs.length ≤ 900000) (hy : Ok ys) (hn : nl (val ys) = 1) :
    Calls Tryd.prog 68 #[.slice A (nl (val xs)) c, .int .u64 ((dg ys 0 : Nat) : Int)] W (Ret2 W (val xs / val ys) (val xs % val ys)) := by
  obtain ⟨hd, hd0⟩ := one_digit hy hn
  have hl := nl_val hW.ok
  have hlen : (xs.take (nl (val xs))).length = nl (val xs) := by rw [List.length_take]; omega
  have := short_any A c (dg ys 0) (nl (val xs)) (xs.take (nl (val xs))) W (hW.front _) hlen (by omega) ⟨hd0, dg_lt hy 0⟩
  rw [val_take_nl hW.ok (Nat.le_refl _)] at this
  rw [hd]
  exact this

set_option maxRecDepth 100000 in
set_option maxHeartbeats 1000000 in
theorem divmod_short (A A' : Option Addr) (c c' : Nat) (xs ys : List Nat) (w : World) (h : Nums w A c xs) (h' : Nums w A' c' ys) (hs : xs.length ≤ 900000) (hs' : ys.length ≤ 900000) (hle : val ys ≤ val xs) (hn : nl (val ys) = 1) :
    Calls Tryd.prog 16 #[.slice A xs.length c, .slice A' ys.length c'] w (Ret2 w (val xs / val ys) (val xs % val ys)) := by
  have HU := Lib.hid (used_any A' c' ys w h' (by omega))
  have hl' := nl_val h'.ok
  have hl := nl_val h.ok
  have hnx : nl (val ys) ≤ nl (val xs) := nl_mono hle
  have HC := Lib.hid (cmp_any A A' c c' xs ys w h h' (by omega) (by omega))
  have t : decide (cmpI ((val xs : Nat) : Int) ((val ys : Nat) : Int) < 0) = false := by
    rcases Nat.lt_or_eq_of_le hle with e | e
    · rw [cmpI_gt (by omega)]; rfl
    · rw [e, cmpI_eq]; rfl
  have HU2 := Lib.hid (fun W (hW : Nums W A c xs) => used_any A c xs W hW (by omega))
  obtain ⟨b, off, rfl, hcx⟩ := h.cells (by omega)
  obtain ⟨b', off', rfl, hcy⟩ := h'.cells (by omega)
  have c0 := hcy 0 (by omega)
  rw [Nat.add_zero] at c0
  have hi0 : (0 : Int) < ys.length := by omega
  have hc := h.le
  have HS := Lib.hid (fun W (hW : Nums W (some ⟨b, off, none⟩) c xs) => short_front (some ⟨b, off, none⟩) c xs ys W hW hs h'.ok hn)
  rw [hn] at HU
  have HNN := Lib.hid hn
  clear hle hn hcx hcy hnx
  go_enter Tryd.func16, Tryd.ntmps16
  go_wp2_with fail
  refine HU.out.mono ?_; rintro e w1 ⟨rfl, rfl⟩
  go_wp2_with fail
  refine HC.out.mono ?_; rintro e w1 ⟨rfl, m, rfl⟩
  go_wp2_with fail
  go_region_with ((first | (go_at_call 67; refine (HU2.out _ (h.drewN _).drew).mono ?_; rintro e w' ⟨rfl, rfl⟩) | (go_at_call 68; refine (HS.out _ (h.drewN _).drew).mono ?_; rintro e w' ⟨A1, c1, A2, c2, rfl, ho1, ho2, hb1⟩)))
  all_goals
    go_wp2_with fail
    go_ret2
    exact ⟨_, _, _, _, rfl, ‹Own _ _ A1 c1 _›, ‹Own _ _ A2 c2 _›, ((below_drewN (Below.refl _ _) m).drew).trans hb1⟩

theorem long_front (A A' : Option Addr) (c c' : Nat) (xs ys : List Nat) (W : World) (hW : Nums W A c xs) (hW' : Nums W A' c' ys) (hs : xs.length ≤ 900000) (hle : val ys ≤ val xs) (hn : 2 ≤ nl (val ys)) :
    Calls Tryd.prog 69 #[.slice A (nl (val xs)) c, .slice A' (nl (val ys)) c'] W (Ret2 W (val xs / val ys) (val xs % val ys)) := by
  have hl := nl_val hW.ok
  have hl' := nl_val hW'.ok
  have h0 : val ys ≠ 0 := fun e => by rw [e, nl_zero] at hn; omega
  have ht : dg (ys.take (nl (val ys))) (nl (val ys) - 1) ≠ 0 := by
    rw [limbs_take hW'.ok]; exact top_ne h0
  have hI : LongIn (xs.take (nl (val xs))) (ys.take (nl (val ys))) (nl (val xs)) (nl (val ys)) _ _ _ := ⟨hW.ok.take _, hW'.ok.take _, by rw [List.length_take]; omega, by rw [List.length_take]; omega, hn, ht, nl_mono hle, rfl, rfl, rfl⟩
  have := long_any A A' c c' _ _ _ _ _ _ _ W (hW.front _) (hW'.front _) hI (by omega)
  rw [val_take_nl hW.ok (Nat.le_refl _), val_take_nl hW'.ok (Nat.le_refl _)] at this
  exact this

set_option maxRecDepth 100000 in
set_option maxHeartbeats 1000000 in
theorem divmod_long (A A' : Option Addr) (c c' : Nat) (xs ys : List Nat) (w : World) (h : Nums w A c xs) (h' : Nums w A' c' ys) (hs : xs.length ≤ 900000) (hs' : ys.length ≤ 900000) (hle : val ys ≤ val xs) (hn : 2 ≤ nl (val ys)) :
    Calls Tryd.prog 16 #[.slice A xs.length c, .slice A' ys.length c'] w (Ret2 w (val xs / val ys) (val xs % val ys)) := by
  have HU := Lib.hid (used_any A' c' ys w h' (by omega))
  have hl' := nl_val h'.ok
  have hl := nl_val h.ok
  have hnx : nl (val ys) ≤ nl (val xs) := nl_mono hle
  have HC := Lib.hid (cmp_any A A' c c' xs ys w h h' (by omega) (by omega))
  have t : decide (cmpI ((val xs : Nat) : Int) ((val ys : Nat) : Int) < 0) = false := by
    rcases Nat.lt_or_eq_of_le hle with e | e
    · rw [cmpI_gt (by omega)]; rfl
    · rw [e, cmpI_eq]; rfl
  have p1 : (((nl (val ys) : Nat) : Int) == 0) = false := by simp; omega
  have p2 : (((nl (val ys) : Nat) : Int) == 1) = false := by simp; omega
  have HU2 := Lib.hid (fun W (hW : Nums W A c xs) => used_any A c xs W hW (by omega))
  obtain ⟨b, off, rfl, hcx⟩ := h.cells (by omega)
  obtain ⟨b', off', rfl, hcy⟩ := h'.cells (by omega)
  have hc := h.le
  have hc' := h'.le
  have HS := Lib.hid (fun W (hW : Nums W (some ⟨b, off, none⟩) c xs) (hW' : Nums W (some ⟨b', off', none⟩) c' ys) => long_front (some ⟨b, off, none⟩) (some ⟨b', off', none⟩) c c' xs ys W hW hW' hs hle hn)
  have i1 : (0 : Int) ≤ ((nl (val ys) : Nat) : Int) := by omega
  have i2 : ((nl (val ys) : Nat) : Int) ≤ (c' : Int) := by omega
  have i3 : (0 : Int) ≤ ((nl (val xs) : Nat) : Int) := by omega
  have i4 : ((nl (val xs) : Nat) : Int) ≤ (c : Int) := by omega
  clear hle hcx hcy
  go_enter Tryd.func16, Tryd.ntmps16
  go_wp2_with fail
  refine HU.out.mono ?_; rintro e w1 ⟨rfl, rfl⟩
  go_wp2_with fail
  refine HC.out.mono ?_; rintro e w1 ⟨rfl, m, rfl⟩
  go_wp2_with fail
  go_region_with ((first | (go_at_call 67; refine (HU2.out _ (h.drewN _).drew).mono ?_; rintro e w' ⟨rfl, rfl⟩) | (go_at_call 69; refine (HS.out _ (h.drewN _).drew (h'.drewN _).drew).mono ?_; rintro e w' ⟨A1, c1, A2, c2, rfl, ho1, ho2, hb1⟩)))
  all_goals
    go_wp2_with fail
    go_ret2
    exact ⟨_, _, _, _, rfl, ‹Own _ _ A1 c1 _›, ‹Own _ _ A2 c2 _›, ((below_drewN (Below.refl _ _) m).drew).trans hb1⟩

theorem divmod_any (A A' : Option Addr) (c c' : Nat) (xs ys : List Nat) (w : World) (h : Nums w A c xs) (h' : Nums w A' c' ys) (hs : xs.length ≤ 900000) (hs' : ys.length ≤ 900000) (hy : val ys ≠ 0) :
    Calls Tryd.prog 16 #[.slice A xs.length c, .slice A' ys.length c'] w (Ret2 w (val xs / val ys) (val xs % val ys)) := by
  rcases Nat.lt_or_ge (val xs) (val ys) with hlt | hge
  · exact divmod_less A A' c c' xs ys w h h' hs hs' hlt
  · have hp : 0 < nl (val ys) := Nat.pos_of_ne_zero fun e => hy (nl_eq_zero.1 e)
    rcases Nat.lt_or_ge (nl (val ys)) 2 with h1 | h2
    · exact divmod_short A A' c c' xs ys w h h' hs hs' hge (by omega)
    · exact divmod_long A A' c c' xs ys w h h' hs hs' hge h2
end Go.Proofs.YtjlfcnkndndgaaaDoor
