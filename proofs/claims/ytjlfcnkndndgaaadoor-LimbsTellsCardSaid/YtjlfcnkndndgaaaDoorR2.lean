/-
  The reference of layer 1: Small, Large.
-/
import Derived.Test.YtjlfcnkndndgaaaDoorR1
namespace Te
/-- Of digits of 64 bits the first i are laid, and of the next one k of its eight parts; x is what is left of it. -/
def SmallInv (xs : List Nat) (i k x : Nat) (ds : List Nat) : Prop :=
  Ok ds ∧ ds.length = 8 * i + k ∧ x = Tw.dg xs i / 256 ^ k ∧ val ds = Tw.val (xs.take i) + 256 ^ (8 * i) * (Tw.dg xs i % 256 ^ k)
theorem SmallInv.step {xs : List Nat} {i k x : Nat} {ds : List Nat} (h : SmallInv xs i k x ds) : SmallInv xs i (k + 1) (x / 256) (ds ++ [x % 256]) := by
  obtain ⟨h1, h2, h3, h4⟩ := h
  refine ⟨h1.append (Ok.cons (by rw [B_eq]; omega) Ok.nil), by simp [h2]; omega, ?_, ?_⟩
  · rw [h3, Nat.div_div_eq_div_mul, Nat.pow_succ]
  · rw [val_snoc, h4, h2, h3, Nat.mod_pow_succ, Nat.mul_add, Nat.pow_add, B_eq, Nat.mul_assoc, Nat.add_assoc]
/-- The first i are laid. -/
def SmallOut (xs : List Nat) (i : Nat) (ds : List Nat) : Prop := Ok ds ∧ ds.length = 8 * i ∧ val ds = Tw.val (xs.take i)
theorem SmallOut.start (xs : List Nat) : SmallOut xs 0 [] := ⟨Ok.nil, rfl, rfl⟩
theorem SmallOut.enter {xs : List Nat} {i : Nat} {ds : List Nat} (h : SmallOut xs i ds) : SmallInv xs i 0 (Tw.dg xs i) ds :=
  ⟨h.1, h.2.1, by simp, by simp [h.2.2, Nat.mod_one]⟩
theorem SmallInv.leave {xs : List Nat} {i x : Nat} {ds : List Nat} (h : SmallInv xs i 8 x ds) (ho : Tw.Ok xs) (hi : i < xs.length) : SmallOut xs (i + 1) ds := by
  obtain ⟨h1, h2, h3, h4⟩ := h
  refine ⟨h1, by omega, ?_⟩
  have hB : (256 : Nat) ^ (8 * i) = Tw.B ^ i := by rw [Nat.pow_mul]; rfl
  rw [h4, Tw.val_take_succ xs i hi, hB, Nat.mod_eq_of_lt (by have := Tw.dg_lt ho i; rw [Tw.B_eq] at this; exact this)]
  rfl
end Te
namespace Go.Proofs.YtjlfcnkndndgaaaDoor
open Go.RowKit Tw

theorem infoInt : (Tryd.prog.info? 3).map (fun i => (i.zero, i.size, i.bytes)) = some (some (.int .i64 0), 1, 8) := by kernel_rfl
/-- An append onto a row of the call's own leaves what was there, and what else the call made. -/
theorem own_grow {B : Nat} {w wr w1 : World} {v : Value} {ds : List Nat} {o : Obj} (hb : Below B w wr) (hB : B ≤ wr.heap.size) (h : OwnS wr B v ds) (hg : (wr.alloc o).grownBy w1 v.ownBlock) : Below B w w1 :=
  (hb.alloc hB o).grown hg (by simp; omega) (fun j hj => (h.lt j hj).1)
theorem own_snoc {B : Nat} (d : Nat) {z : Int} {w1 : World} {v' : Value} {ds : List Nat} (h : w1.ownsRow B 3 1 v' (ds.length + 1) ((ds.map fun (d : Nat) => Value.int .i64 (d : Int)) ++ [.int .i64 z])) (hz : z = (d : Int)) : OwnS w1 B v' (ds ++ [d]) := by
  subst hz; unfold OwnS; simpa using h
theorem one_news (w : World) (x : Value) (t : TypeId) : ∀ j u, [x][j]? = some u → (w.alloc (.cells #[x] t)).cell? ((⟨w.heap.size, 0, none⟩ : Addr).add j) = some u := fun j u h => by
  cases j with
  | zero =>
    have hh := heap_alloc_new w (.cells #[x] t)
    simp at h; subst h
    show (w.alloc (.cells #[x] t)).cell? ⟨w.heap.size, 0, none⟩ = _
    rw [cell_of_row _ _ _ _ _ _ hh]; rfl
  | succ j => simp at h
theorem one_int (k : IntKind) (z : Int) : ∀ u ∈ [Value.int k z], u.oneCell' = true := fun u h => by simp at h; subst h; rfl
theorem u64_fit (x : Nat) (h : x < 18446744073709551616) : IntKind.u64.wrap (x : Int) = (x : Int) := by
  simp [IntKind.wrap, IntKind.bits, IntKind.signed]; omega
theorem u64_step {y j d : Nat} (hy : y < 256 ^ (8 - (j + 1))) (hj : j < 8) (hd : d < 256) : y * 256 < 18446744073709551616 ∧ y * 256 + d < 18446744073709551616 := by
  obtain ⟨q, hq⟩ : ∃ q, q = 256 ^ (8 - (j + 1)) := ⟨_, rfl⟩
  have hp : q * 256 ≤ 256 ^ 8 := by
    rw [hq, ← Nat.pow_succ]; exact Nat.pow_le_pow_right (by omega) (by omega)
  have e : (256 : Nat) ^ 8 = 18446744073709551616 := by decide
  rw [← hq] at hy
  rw [e] at hp
  clear e hq
  omega
theorem SmallInv_lt {xs : List Nat} {i k x : Nat} {ds : List Nat} (h : Te.SmallInv xs i k x ds) (ho : Ok xs) : x < 18446744073709551616 := by
  rw [h.2.2.1]
  exact Nat.lt_of_le_of_lt (Nat.div_le_self _ _) (by have := dg_lt ho i; rwa [B_eq] at this)
theorem len_bd {n : Nat} (h : n ≤ 900000) : n + 1 ≤ maxLen := by unfold maxLen; omega
theorem byte_bd {n : Nat} (h : n ≤ 900000) : (n + 1) * 8 ≤ 140737488355328 := by omega
theorem base_bd {B : Nat} {w : World} (h : B ≤ w.heap.size) (o : Obj) : B ≤ (w.alloc o).heap.size := by simp; omega

set_option maxHeartbeats 1000000 in
theorem small_any (A : Option Addr) (c l n : Nat) (xs : List Nat) (w : World) (h : Nums w A c xs) (hl : xs.length = l) (hn : val xs = n) (hs : l ≤ 100000) :
    Calls Tryd.prog 36 #[.slice A l c] w (TellsD w n) := by
  obtain ⟨i0, hi, hz0, hz1, hz2⟩ := info_parts infoInt
  have HL := Lib.hid hl
  have HO := Lib.hid h.ok
  have HC := Lib.hid h
  have HN := Lib.hid hn
  clear h hl hn
  go_enter Tryd.func36, Tryd.ntmps36
  go_wp2_with fail
  go_loopw [3, 4] (fun v i wr => ∃ (k : Nat) (ds : List Nat), k ≤ l ∧ i = .int .i64 k ∧ OwnS wr w.heap.size v ds ∧ Te.SmallOut xs k ds ∧ Below w.heap.size w wr) (fun _ i _ => l - (intOf i).toNat)
  case atStart => exact ⟨0, [], Nat.zero_le _, rfl, World.ownsRow_nil _ _ _ _, Te.SmallOut.start xs, Below.refl _ _⟩
  case round =>
    obtain ⟨k, ds, hk, rfl, hown, hso, hb⟩ := hrel
    by_cases hlt : k < l
    · obtain ⟨b, off, rfl, hcell⟩ := (HC.out.below hb).cells (by rw [HL.out]; omega)
      have c1 := hcell k (by rw [HL.out]; exact hlt)
      have hx := dg_lt HO.out k
      rw [B_eq] at hx
      have HX := Lib.hid hx
      have HI := Lib.hid hso.enter
      clear hcell hso hx
      obtain ⟨wo, rfl⟩ : ∃ wo : World, wo = wr := ⟨_, rfl⟩
      go_wp2_with fail
      go_loopw [3, 5, 6] (fun v x j wr => ∃ (m y : Nat) (ds : List Nat), m ≤ 8 ∧ j = .int .i64 m ∧ x = .int .u64 y ∧ OwnS wr w.heap.size v ds ∧ Te.SmallInv xs k m y ds ∧ Below w.heap.size w wr) (fun _ _ j _ => 8 - (intOf j).toNat)
      case atStart => exact ⟨0, _, ds, Nat.zero_le _, rfl, rfl, hown, HI.out, hb⟩
      case round =>
        clear hown HI hb
        obtain ⟨m, y, ds, hm, rfl, rfl, hown, hsi, hb⟩ := hrel
        by_cases hlt8 : m < 8
        · have hsz : ds.length = 8 * k + m := hsi.2.1
          have hz := hb.size
          have HS := Lib.hid hsi
          have hw : IntKind.u64.wrap ((y : Int) / 256) = ((y / 256 : Nat) : Int) := by
            have := SmallInv_lt hsi HO.out
            exact u64_fit (y / 256) (by omega)
          have HZ := Lib.hid hsz
          have hlen : ds.length ≤ 900000 := by omega
          clear hsi hsz
          go_wp2_with (at_builtin; refine wpList_append_own _ rfl _ _ 38 rfl w.heap.size 3 i0 (.int .i64 0) 1 8 Tryd.underlying38 hi hz0 hz1 hz2 rfl (by decide) _ _ _ rfl (hown.alloc _) ⟨wr.heap.size, 0, none⟩ 1 1 [.int .i64 ((y : Int) % 256)] rfl rfl (one_news _ _ _) (one_int _ _) (len_bd hlen) (byte_bd hlen) (base_bd hz _) ?_; intro v' w1 hown' hgrow _)
          have hb1 := own_grow hb hz hown hgrow
          have ho1 := own_snoc (y % 256) hown' (by omega)
          clear hown hown' hgrow hb
          go_wp2_with fail
          go_roundw
          case rel => exact ⟨m + 1, y / 256, _, by omega, by go_num, by go_num, ho1, HS.out.step, hb1⟩
          case measure => simp [intOf]; omega
        · obtain rfl : m = 8 := by omega
          have HS := Lib.hid (hsi.leave HO.out (by rw [HL.out]; exact hlt))
          clear hsi
          go_wp2_with fail
          go_roundw
          case rel => exact ⟨k + 1, ds, by omega, by go_num, hown, HS.out, hb⟩
          case measure => simp [intOf]; omega
    · obtain rfl : k = l := by omega
      obtain ⟨A1, c1, rfl, hsm⟩ := hown.sm hso.1
      have hlen : ds.length ≤ 8000000 := by have := hso.2.1; omega
      have HE : Hid (Te.val ds = n) := by
        show _ = _
        rw [hso.2.2, ← HN.out, List.take_of_length_le (by rw [HL.out]; omega)]
      clear hown
      go_wp2_with fail
      refine (trim8_any A1 c1 ds _ hsm hlen).mono ?_
      rintro e _ ⟨rfl, rfl⟩
      go_wp2_with fail
      go_ret
      have h1 := hsm.front (Te.nl (Te.val ds))
      rw [Te.limbs_take hsm.ok, HE.out] at h1
      exact ⟨A1, c1, Te.nl n, ret_sl (by rw [HE.out]), ⟨h1, rfl⟩, hb⟩

/-- Slices told by Large: the one form of digits of 64 bits. -/
theorem infoU64 : (Tryd.prog.info? 29).map (fun i => (i.zero, i.size, i.bytes)) = some (some (.int .u64 0), 1, 8) := by kernel_rfl
def OwnW (w : World) (B : Nat) (v : Value) (ds : List Nat) : Prop := w.ownsRow B 29 1 v ds.length (ds.map fun (d : Nat) => Value.int .u64 (d : Int))
theorem OwnW.nums {w : World} {B : Nat} {v : Value} {ds : List Nat} (h : OwnW w B v ds) (ho : Ok ds) : ∃ A c, v = .slice A ds.length c ∧ Nums w A c ds := by
  obtain ⟨hl, ⟨rfl, h0⟩ | ⟨g, cap, cur, rfl, hB, hc, hn, hm, hs, ht⟩⟩ := h
  · obtain rfl : ds = [] := List.eq_nil_of_length_eq_zero h0
    exact ⟨none, 0, rfl, Nums.nil _ _ _⟩
  · refine ⟨_, cap, rfl, ho, hn, fun _ => ⟨g, 0, rfl, fun k hk => ?_⟩⟩
    have h1 : (cur.toList.take (ds.length * 1))[k]? = some (Value.int .u64 (dg ds k)) := by
      rw [ht, List.getElem?_map, dg_get hk]; rfl
    rw [List.getElem?_take, if_pos (by omega)] at h1
    simp only [World.cell?, hc, Nat.zero_add]
    simpa using h1
theorem ownW_grow {B : Nat} {w wr w1 : World} {v : Value} {ds : List Nat} {o : Obj} (hb : Below B w wr) (hB : B ≤ wr.heap.size) (h : OwnW wr B v ds) (hg : (wr.alloc o).grownBy w1 v.ownBlock) : Below B w w1 :=
  (hb.alloc hB o).grown hg (by simp; omega) (fun j hj => (h.lt j hj).1)
theorem ownW_snoc {B : Nat} (d : Nat) {z : Int} {w1 : World} {v' : Value} {ds : List Nat} (h : w1.ownsRow B 29 1 v' (ds.length + 1) ((ds.map fun (d : Nat) => Value.int .u64 (d : Int)) ++ [.int .u64 z])) (hz : z = (d : Int)) : OwnW w1 B v' (ds ++ [d]) := by
  subst hz; unfold OwnW; simpa using h
end Go.Proofs.YtjlfcnkndndgaaaDoor
namespace Te
/-- x counts the digits of place i + k and up, of eight. -/
def LargeIn (xs : List Nat) (i k x : Nat) : Prop := x = val ((xs.drop (i + k)).take (8 - k))
theorem LargeIn.start (xs : List Nat) (i : Nat) : LargeIn xs i 8 0 := by unfold LargeIn; simp [val]
theorem LargeIn.step {xs : List Nat} {i k x : Nat} (h : LargeIn xs i (k + 1) x) (hk : k < 8) : LargeIn xs i k (x * 256 + Tw.dg xs (i + k)) := by
  unfold LargeIn at *
  rw [h]
  by_cases hl : i + k < xs.length
  · rw [List.drop_eq_getElem_cons hl, show 8 - k = (8 - (k + 1)) + 1 from by omega, List.take_succ_cons, val_cons, B_eq]
    have : Tw.dg xs (i + k) = xs[i + k] := by unfold Tw.dg; rw [List.getD_eq_getElem?_getD, List.getElem?_eq_getElem hl]; rfl
    rw [this, show i + (k + 1) = i + k + 1 from by omega]
    omega
  · rw [List.drop_eq_nil_of_le (by omega), List.drop_eq_nil_of_le (by omega), Tw.dg_past (by omega)]
    simp [val]
theorem LargeIn.lt {xs : List Nat} {i k x : Nat} (h : LargeIn xs i k x) (ho : Ok xs) : x < 256 ^ (8 - k) := by
  unfold LargeIn at h
  rw [h]
  refine Nat.lt_of_lt_of_le (val_lt ((ho.drop _).take _)) ?_
  rw [B_eq]
  exact Nat.pow_le_pow_right (by omega) (List.length_take_le _ _)
/-- m digits of 64 bits are told. -/
def LargeOut (xs : List Nat) (m : Nat) (ys : List Nat) : Prop := Tw.Ok ys ∧ ys.length = m ∧ Tw.val ys = val (xs.take (8 * m))
theorem LargeOut.start (xs : List Nat) : LargeOut xs 0 [] := ⟨Tw.Ok.nil, rfl, rfl⟩
theorem LargeOut.step {xs ys : List Nat} {m x : Nat} (h : LargeOut xs m ys) (hx : LargeIn xs (8 * m) 0 x) (ho : Ok xs) : LargeOut xs (m + 1) (ys ++ [x]) := by
  obtain ⟨h1, h2, h3⟩ := h
  have hlt := hx.lt ho
  refine ⟨h1.append (Tw.Ok.cons (by rw [Tw.B_eq]; exact hlt) Tw.Ok.nil), by simp [h2], ?_⟩
  rw [Tw.val_snoc, h3, h2]
  unfold LargeIn at hx
  rw [show 8 * (m + 1) = 8 * m + 8 from by omega, List.take_add, val_append, hx, Nat.add_zero, Nat.sub_zero]
  by_cases hl : 8 * m ≤ xs.length
  · rw [List.length_take, Nat.min_eq_left hl, B_eq, Nat.pow_mul]; rfl
  · rw [List.drop_eq_nil_of_le (by omega)]; simp [val]
theorem large_one {ys : List Nat} {v l m : Nat} (ho : Tw.Ok ys) (hl : ys.length = m) (hv : Tw.val ys = v) (hn : nl v = l) (h1 : l ≤ 8 * m) (h2 : 8 * m ≤ l + 7) : ys = Tw.limbs v := by
  have h := Tw.limbs_val ho
  rw [hv, hl] at h
  have h3 := Tw.nl_val ho
  rw [hv, hl] at h3
  have h4 : Tw.nl v = m := by
    rcases Nat.lt_or_ge (Tw.nl v) m with h5 | h5
    · have h6 := Tw.nl_le_iff.1 (show Tw.nl v ≤ m - 1 by omega)
      have h7 : nl v ≤ 8 * (m - 1) := nl_le_of_lt (by rw [B_eq, Nat.pow_mul]; exact h6)
      omega
    · omega
  rw [h4, Nat.sub_self] at h
  simpa using h
end Te
namespace Go.Proofs.YtjlfcnkndndgaaaDoor
open Go.RowKit Tw
set_option maxHeartbeats 1000000 in
theorem large_any (A : Option Addr) (c l : Nat) (xs : List Nat) (w : World) (h : Sm w A c xs) (hl : Te.nl (Te.val xs) = l) (hx : Hid (xs.take l = Te.limbs (Te.val xs))) (hs : xs.length ≤ 800000) :
    Calls Tryd.prog 35 #[.slice A xs.length c] w (Tells w (Te.val xs) (l / 8 + 1)) := by
  obtain ⟨i0, hi, hz0, hz1, hz2⟩ := info_parts infoU64
  have hle : l ≤ xs.length := by rw [← hl]; exact Te.nl_val h.ok
  have HT := Lib.hid (trim8_any A c xs w h (by omega))
  rw [hl] at HT
  have HL := Lib.hid hl
  have h1 := h.front l
  have HC := Lib.hid h1
  have HLL : Hid ((xs.take l).length = l) := by show _ = _; rw [List.length_take]; omega
  clear h hl h1
  obtain ⟨ds, hds⟩ : ∃ ds, xs.take l = ds := ⟨_, rfl⟩
  rw [hds] at HC HLL hx
  clear hds
  go_enter Tryd.func35, Tryd.ntmps35
  go_wp2_with fail
  refine HT.out.mono ?_
  rintro e _ ⟨rfl, rfl⟩
  clear HT
  go_wp2_with fail
  go_loopw [3, 4] (fun v i wr => ∃ (m : Nat) (ys : List Nat), 8 * m ≤ l + 7 ∧ i = .int .i64 ((8 * m : Nat) : Int) ∧ OwnW wr w.heap.size v ys ∧ Te.LargeOut ds m ys ∧ Below w.heap.size w wr) (fun _ i _ => l + 7 - (intOf i).toNat)
  case atStart => exact ⟨0, [], by omega, rfl, World.ownsRow_nil _ _ _ _, Te.LargeOut.start ds, Below.refl _ _⟩
  case round =>
    obtain ⟨m, ys, hm, rfl, hown, hlo, hb⟩ := hrel
    obtain ⟨i, hi8⟩ : ∃ i, i = 8 * m := ⟨_, rfl⟩
    rw [← hi8]
    by_cases hlt : i < l
    · have HI := Lib.hid hlo
      have H8 := Lib.hid hi8
      have hil : i ≤ 800000 := by omega
      clear hlo hi8
      obtain ⟨wo, rfl⟩ : ∃ wo : World, wo = wr := ⟨_, rfl⟩
      go_wp2_with fail
      go_loopw [5, 6] (fun x j wr => ∃ (k y : Nat), k ≤ 8 ∧ j = .int .i64 ((k : Int) - 1) ∧ x = .int .u64 (y : Int) ∧ Te.LargeIn ds i k y ∧ wr = wo) (fun _ j _ => ((intOf j) + 1).toNat)
      case atStart => exact ⟨8, 0, by omega, rfl, rfl, Te.LargeIn.start ds i, rfl⟩
      case round =>
        obtain ⟨k, y, hk, rfl, rfl, hin, rfl⟩ := hrel
        rcases Nat.eq_zero_or_pos k with rfl | hkp
        · have HS := Lib.hid (Te.LargeOut.step HI.out (by rw [← H8.out]; exact hin) HC.out.ok)
          have hlen : ys.length ≤ 900000 := by have := HI.out.2.1; omega
          have hz := hb.size
          clear hin
          go_wp2_with (at_builtin; refine wpList_append_own _ rfl _ _ 22 rfl w.heap.size 29 i0 (.int .u64 0) 1 8 Tryd.underlying22 hi hz0 hz1 hz2 rfl (by decide) _ _ _ rfl (hown.alloc _) ⟨_, 0, none⟩ 1 1 [.int .u64 (y : Int)] rfl rfl (one_news _ _ _) (one_int _ _) (len_bd hlen) (byte_bd hlen) (base_bd hz _) ?_; intro v' w1 hown' hgrow _)
          have hb1 := ownW_grow hb hz hown hgrow
          have ho1 := ownW_snoc y hown' rfl
          clear hown hown' hgrow hb
          go_wp2_with fail
          go_roundw
          case rel => exact ⟨m + 1, _, by have := H8.out; omega, by rw [show ((8 * (m + 1) : Nat) : Int) = (i : Int) + 8 from by have := H8.out; omega], ho1, HS.out, hb1⟩
          case measure => simp [intOf]; have := H8.out; omega
        · obtain ⟨j, rfl⟩ : ∃ j, k = j + 1 := ⟨k - 1, by omega⟩
          have hy := hin.lt HC.out.ok
          have hd : dg ds (i + j) < 256 := Te.dg_lt HC.out.ok (i + j)
          obtain ⟨f1, f2⟩ := u64_step hy (by omega) hd
          have w1 : IntKind.u64.wrap ((y : Int) * 256) = (y : Int) * 256 := u64_fit (y * 256) f1
          have w2 : IntKind.u64.wrap ((dg ds (i + j) : Nat) : Int) = ((dg ds (i + j) : Nat) : Int) := u64_fit _ (by omega)
          have w3 : IntKind.u64.wrap ((y : Int) * 256 + ((dg ds (i + j) : Nat) : Int)) = (y : Int) * 256 + ((dg ds (i + j) : Nat) : Int) := u64_fit (y * 256 + dg ds (i + j)) f2
          clear hy f1 f2
          have HIN := Lib.hid (hin.step (by omega))
          clear hin
          have ej : ((j + 1 : Nat) : Int) - 1 = (j : Int) := by omega
          rw [ej]
          clear ej
          by_cases hil2 : i + j < l
          · obtain ⟨b, off, rfl, hcell⟩ := (HC.out.below hb).cells (by rw [HLL.out]; omega)
            have c1 := hcell (i + j) (by rw [HLL.out]; exact hil2)
            clear hcell
            go_wp2_with fail
            exact ⟨⟨j, _, by omega, rfl, by go_num, HIN.out, trivial⟩, by simp [intOf]⟩
          · have HD : Hid (dg ds (i + j) = 0) := by show _ = _; exact Tw.dg_past (by rw [HLL.out]; omega)
            clear w2 w3
            go_wp2_with fail
            exact ⟨⟨j, y * 256, by omega, rfl, by go_num, by have := HIN.out; rw [HD.out, Nat.add_zero] at this; exact this, trivial⟩, by simp [intOf]⟩
    · obtain ⟨A1, c1, rfl, hnm⟩ := hown.nums hlo.1
      have hval : val ys = Te.val xs := by
        rw [hlo.2.2, List.take_of_length_le (by rw [HLL.out]; omega), hx.out, Te.val_limbs]
      have hys : ys = limbs (Te.val xs) := Te.large_one hlo.1 hlo.2.1 hval HL.out (by omega) hm
      have HY := Lib.hid hys
      have HM := Lib.hid hlo.2.1
      clear hown hlo hys hval
      go_wp2_with fail
      go_ret
      exact ⟨A1, c1, ys.length, rfl, ⟨by rw [← HY.out]; exact hnm, by rw [HY.out]; rfl⟩, by rw [HM.out]; omega, hb⟩
end Go.Proofs.YtjlfcnkndndgaaaDoor
