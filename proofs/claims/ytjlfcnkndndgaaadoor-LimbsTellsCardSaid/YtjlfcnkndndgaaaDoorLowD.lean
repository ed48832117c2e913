/-
  Contracts of limbs: lessen, Sub.
-/
import Derived.Test.YtjlfcnkndndgaaaDoorLowC
import Derived.Deep.RegionWith
namespace Go.Proofs.YtjlfcnkndndgaaaDoor
open Go.RowKit Tw

/-- What a call that works in block g leaves: the slice itself, the block's digits new. -/
def InRow (w : World) (g n : Nat) (zs : List Nat) (v : Nat) (e : Ending) (w' : World) : Prop :=
  e = .returned (.slice (some ⟨g, 0, none⟩) n zs.length) ∧ ∃ zs', Row w' g zs' ∧ Ok zs' ∧ zs'.length = zs.length ∧ val (zs'.take n) = v ∧ w.grownBy w' (some g)

set_option maxHeartbeats 1000000 in
theorem lessen_any (g n : Nat) (zs : List Nat) (A' : Option Addr) (c' : Nat) (ys : List Nat) (w : World) (hr : Row w g zs) (ho : Ok zs) (hn : n ≤ zs.length) (hs : n ≤ 4000000)
    (h' : Nums w A' c' ys) (hA : Off A' ys g) (hle : val ys ≤ val (zs.take n)) :
    Calls Tryd.prog 74 #[.slice (some ⟨g, 0, none⟩) n zs.length, .slice A' ys.length c'] w (InRow w g n zs (val (zs.take n) - val ys)) := by
  have hg := hr.lt
  have HA := Lib.hid hA
  have HLE := Lib.hid hle
  clear hA hle
  go_enter Tryd.func74, Tryd.ntmps74
  go_wp2_with fail
  refine (reader_any _ _ _ _).mono ?_; rintro e w1 ⟨g1, rfl, hx1, hg1, hb1⟩
  have hr1 := hr.below hb1 hg
  have hN1 := h'.below hb1
  go_wp2_with fail
  go_loopw [6, 12] (fun bv i wr => ∃ k bw : Nat, k ≤ n ∧ i = .int .i64 k ∧ bv = .int .u64 bw ∧ ∃ us, us.length = zs.length ∧ Row wr g us ∧ SubInv zs ys us k bw ∧ w1.grownBy wr (some g)) (fun _ i _ => n - (intOf i).toNat)
  case atStart => exact ⟨0, 0, Nat.zero_le _, rfl, rfl, zs, rfl, hr1, SubInv.start ys ho, World.grownBy.refl _ _⟩
  case round =>
    obtain ⟨k, bw, hk, rfl, rfl, us, hu, hru, hi, hgr⟩ := hrel
    by_cases hlt : k < n
    · have had := sub64 (dg us k) (dg ys k) bw hi.2.1
      have hcell := hru.cell (k := k) (by omega)
      have hfr := hru.frozen k
      have hkn : (k : Int) < n := by omega
      have hk0 : (0 : Int) ≤ k := by omega
      have hcall := read_any g1 A' c' k ys wr.drew (hx1.grown hgr (by simp; omega)).cell (hN1.grownOff hgr HA.out).drew
      have HU := Lib.hid hu
      have HCL := Lib.hid hcall
      clear hu hcall
      go_wp2_with fail
      go_region_with ((go_at_call 91; refine HCL.out.mono ?_; rintro e w' ⟨rfl, rfl⟩))
      all_goals
        go_wp2_with fail
        go_roundw
        case rel => exact ⟨k + 1, _, by omega, by go_num, rfl, _, by rw [List.length_set]; exact HU.out, (hru.set k _).drew, hi.step ho h'.ok (by have := HU.out; omega), grown_drew (grown_set hgr (.inl rfl) _)⟩
        case measure => simp [intOf]; omega
    · obtain rfl : k = n := by omega
      go_wp2_with fail
      go_ret
      have hnl : nl (val ys) ≤ k := nl_le_of_lt (Nat.lt_of_le_of_lt HLE.out (val_take_lt ho k))
      exact ⟨rfl, us, hru, hi.1, hu, (hi.done ho h'.ok hnl HLE.out).2, grown_trans (grown_below hb1 _) hgr⟩

theorem sub_any (A A' : Option Addr) (c c' : Nat) (xs ys : List Nat) (w : World) (h : Nums w A c xs) (h' : Nums w A' c' ys) (hs : xs.length ≤ 4000000) (hs' : ys.length ≤ 4000000) :
    Calls Tryd.prog 19 #[.slice A xs.length c, .slice A' ys.length c'] w (Ret w (val xs - val ys)) := by
  have HC := Lib.hid (cmp_any A A' c c' xs ys w h h' hs hs')
  by_cases hle : val xs ≤ val ys
  · have h0 : val xs - val ys = 0 := by omega
    rw [h0]
    have t : decide (cmpI ((val xs : Nat) : Int) ((val ys : Nat) : Int) ≤ 0) = true := by
      rcases Nat.lt_or_eq_of_le hle with hl | hl
      · rw [cmpI_lt (by omega)]; rfl
      · rw [hl, cmpI_eq]; rfl
    have HR : Hid (∀ n, Ret w 0 (.returned (.slice none 0 0)) (w.drewN n)) := fun n => ⟨none, 0, rfl, .inl ⟨rfl, rfl, rfl⟩, below_drewN (Below.refl _ _) n⟩
    clear hle h0
    go_enter Tryd.func19, Tryd.ntmps19
    go_wp2_with fail
    refine HC.out.mono ?_; rintro e w' ⟨rfl, n, rfl⟩
    go_wp2_with fail
    go_ret
    exact HR.out n
  · have t : decide (cmpI ((val xs : Nat) : Int) ((val ys : Nat) : Int) ≤ 0) = false := by rw [cmpI_gt (by omega)]; rfl
    have HN := Lib.hid hle
    clear hle
    go_enter Tryd.func19, Tryd.ntmps19
    go_wp2_with fail
    refine HC.out.mono ?_; rintro e w' ⟨rfl, n, rfl⟩
    go_wp2_with fail
    refine (trim_any A c xs _ (h.drewN n) hs).mono ?_; rintro e w1 ⟨A1, c1, rfl, ho1, hb1⟩
    rcases ho1 with ⟨h0, _⟩ | ⟨h0, g, zs, rfl, hg, hr, rfl, hl, ht, ho⟩
    · exact absurd h0 (by have := HN.out; omega)
    go_wp2_with fail
    have hbA : Below w.heap.size w w1 := (below_drewN (Below.refl _ _) n).trans hb1
    have hlen : (zs.take (nl (val xs))).length = nl (val xs) := by rw [List.length_take]; omega
    have hval : val (zs.take (nl (val xs))) = val xs := by rw [ht, val_limbs]
    have hnl := nl_val h.ok
    have hl1 := lessen_any g (nl (val xs)) zs A' c' ys w1 hr ho hl (by omega) (h'.below hbA) (h'.off hg) (by rw [hval]; have := HN.out; omega)
    rw [hval] at hl1
    refine hl1.mono ?_; rintro e w2 ⟨rfl, us, hru, hou, hlu, hvu, hgr⟩
    have hlu' := Lib.hid hlu
    go_wp2_with fail
    have ht := tidy_row g (nl (val xs)) us w2 hru hou (by omega) (by omega) w.heap.size (val xs - val ys) hg hvu
    rw [hlu] at ht
    refine ht.mono ?_; rintro e w3 ⟨A3, c3, rfl, ho3, rfl⟩
    go_wp2_with fail
    go_ret
    exact ⟨A3, c3, rfl, ho3, below_row hbA hgr hg⟩
end Go.Proofs.YtjlfcnkndndgaaaDoor
