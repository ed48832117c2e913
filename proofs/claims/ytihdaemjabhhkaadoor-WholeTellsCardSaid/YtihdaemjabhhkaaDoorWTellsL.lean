/-
  WholeTells: for any numbers the law answers true, and leaves what is handed in. No condition. Written by wip/gen/wtells.py.
-/
import Derived.Test.YtihdaemjabhhkaaDoorWTells0
import Derived.Test.YtihdaemjabhhkaaDoorWTells1
namespace Go.Proofs.YtihdaemjabhhkaaDoor
open Go.RowKit Tw

/-- A whole number that came in, digit by digit. -/
def InIX (w : World) (_s : Bool) (A : Option Addr) (l c : Nat) : Prop := (∃ xs, Nx w A c l xs) ∧ l ≤ 9223372036854775807 ∧ (A = none → c = 0)
open Go.ChangeShapes Go.WideShapes Go.ChangeAt in
set_option maxRecDepth 100000 in
theorem intx_of {H : Type} {enc : TypeId × Value → H} {W : World} {b : Nat} {sp : Nat → Bool} {hd : Bool} {v : Value} {d : DataW H} {p : List MemPlace}
    (h : DataW.Trod enc Tryd.prog W b sp hd 24 v d p) (hv : ∃ cs, v = .agg cs) : ∃ s A l c, v = .agg #[.bool s, .slice A l c] ∧ InIX W s A l c := by
  obtain ⟨cs, rfl⟩ := hv
  obtain ⟨fuel, hf⟩ := h
  obtain ⟨y0, y1, n, hx, hl, h0, h1⟩ := trod_struct2 Tryd.underlying24 hf
  have hC : Tryd.prog.cellsOf 24 = 2 := by kernel_rfl
  have hC0 : Tryd.prog.cellsOf 4 = 1 := by kernel_rfl
  have hC1 : Tryd.prog.cellsOf 22 = 1 := by kernel_rfl
  have hl' : cs.size = 2 := by rw [← hC, ← hl]; simp [Value.cells]
  obtain ⟨c0, c1, rfl⟩ := Joins.array2 hl'
  simp [Value.cells, hC0] at h0
  simp [Value.cells, hC1] at h1
  obtain ⟨s, rfl⟩ : ∃ s, c0 = .bool s := by
    cases n with
    | zero => simp [DataW.trod] at h0
    | succ n => cases c0 <;> simp [DataW.trod, Tryd.underlying4] at h0; exact ⟨_, rfl⟩
  obtain ⟨A, l, c, e⟩ := Joins.slice_form Tryd.underlying22 h1
  obtain rfl : c1 = .slice A l c := by simpa using e
  exact ⟨s, A, l, c, rfl, inx_of (A := A) (l := l) (c := c) (d := y1.1) (p := y1.2) ⟨n, by simpa [Value.cells] using h1⟩⟩
set_option maxRecDepth 100000 in
theorem wtells_g0 {sa sb : Bool} {A B' : Option Addr} {ca cb la lb : Nat} {n : Int} {w : World} (H1 : Hid (decide ((la : Int) ≤ 12) = false)) :
    Calls Tryd.prog 3 #[.agg #[.bool sa, .slice A la ca], .agg #[.bool sb, .slice B' lb cb], .int .i64 n] w (Yes w) := by
    obtain ⟨W, hW, x0, x1, hB⟩ := boxes2 w #[.bool sa, .slice A la ca] 24 #[.bool sb, .slice B' lb cb] 24
    have HX0 := Lib.hid x0
    have HX1 := Lib.hid x1
    clear x0 x1
    have Bz := Below.refl W.heap.size W
    have p0_0 := (HX0.out.below Bz).cell 0 (.bool sa) rfl
    have p0_1 := (HX0.out.below Bz).cell 1 (.slice A la ca) rfl
    go_enter Tryd.func3, Tryd.ntmps3
    go_wp2_with fail
    rw [← hW]
    clear hW
    go_wp2_with fail
    with_reducible refine (short_z 12 false H1.out).mono ?_
    rintro e w1 ⟨rfl, b1⟩
    replace b1 := below_trans (a := W) (by go_grown) b1
    replace Bz := below_trans Bz b1
    clear b1
    clear p0_0 p0_1
    go_wp2_with fail
    with_reducible refine (awake2 _).mono ?_
    rintro e w2 ⟨rfl, b2⟩
    replace b2 := below_trans (a := w1) (by go_grown) b2
    replace Bz := below_trans Bz b2
    clear b2
    go_wp2_with fail
    go_ret
    have hF := below_trans (c := w2) hB Bz
    exact ⟨rfl, below_trans hF (by go_grown)⟩
set_option maxRecDepth 100000 in
theorem wtells_g1 {sa sb : Bool} {A B' : Option Addr} {ca cb la lb : Nat} {n : Int} {w : World} (H1 : Hid (decide ((la : Int) ≤ 12) = true)) (H2 : Hid (decide ((lb : Int) ≤ 12) = false)) :
    Calls Tryd.prog 3 #[.agg #[.bool sa, .slice A la ca], .agg #[.bool sb, .slice B' lb cb], .int .i64 n] w (Yes w) := by
    obtain ⟨W, hW, x0, x1, hB⟩ := boxes2 w #[.bool sa, .slice A la ca] 24 #[.bool sb, .slice B' lb cb] 24
    have HX0 := Lib.hid x0
    have HX1 := Lib.hid x1
    clear x0 x1
    have Bz := Below.refl W.heap.size W
    have p0_0 := (HX0.out.below Bz).cell 0 (.bool sa) rfl
    have p0_1 := (HX0.out.below Bz).cell 1 (.slice A la ca) rfl
    go_enter Tryd.func3, Tryd.ntmps3
    go_wp2_with fail
    rw [← hW]
    clear hW
    go_wp2_with fail
    with_reducible refine (short_z 12 true H1.out).mono ?_
    rintro e w1 ⟨rfl, b1⟩
    replace b1 := below_trans (a := W) (by go_grown) b1
    replace Bz := below_trans Bz b1
    clear b1
    clear p0_0 p0_1
    have p1_0 := (HX1.out.below Bz).cell 0 (.bool sb) rfl
    have p1_1 := (HX1.out.below Bz).cell 1 (.slice B' lb cb) rfl
    go_wp2_with fail
    with_reducible refine (short_z 12 false H2.out).mono ?_
    rintro e w2 ⟨rfl, b2⟩
    replace b2 := below_trans (a := w1) (by go_grown) b2
    replace Bz := below_trans Bz b2
    clear b2
    clear p1_0 p1_1
    go_wp2_with fail
    with_reducible refine (awake2 _).mono ?_
    rintro e w3 ⟨rfl, b3⟩
    replace b3 := below_trans (a := w2) (by go_grown) b3
    replace Bz := below_trans Bz b3
    clear b3
    go_wp2_with fail
    go_ret
    have hF := below_trans (c := w3) hB Bz
    exact ⟨rfl, below_trans hF (by go_grown)⟩
theorem wtells_any {sa sb : Bool} {A B' : Option Addr} {ca cb la lb : Nat} {n : Int} {w : World} (ha : InIX w sa A la ca) (hb : InIX w sb B' lb cb) (hz : -9223372036854775808 ≤ n ∧ n ≤ 9223372036854775807) (hT : Tab w) :
    Calls Tryd.prog 3 #[.agg #[.bool sa, .slice A la ca], .agg #[.bool sb, .slice B' lb cb], .int .i64 n] w (Yes w) := by
  obtain ⟨⟨xs, hx⟩, ma, na⟩ := ha
  obtain ⟨⟨ys, hy⟩, mb, nb⟩ := hb
  by_cases h1 : la ≤ 12
  · by_cases h2 : lb ≤ 12
    · by_cases h0 : sgn sb (val ys) = 0
      · exact wtells_z ⟨_, hx.v, rfl⟩ ⟨_, hy.v, rfl⟩ hx hy h1 h2 (Lib.hid h0) (Lib.hid hz) (Lib.hid na) (Lib.hid nb) (Lib.hid hT)
      · exact wtells_n ⟨_, hx.v, rfl⟩ ⟨_, hy.v, rfl⟩ hx hy h1 h2 h0 (Lib.hid hz) (Lib.hid na) (Lib.hid nb) (Lib.hid hT)
    · exact wtells_g1 (Lib.hid (by simp; omega)) (Lib.hid (by simp; omega))
  · exact wtells_g0 (Lib.hid (by simp; omega))

namespace wholeTells
open Go.ChangeShapes Go.WideShapes Go.ChangeAt Go.RowKit Tw

set_option maxRecDepth 100000 in
theorem contract (H : Type) (enc : TypeId × Value → H) (W : World) (base : Nat) (args : Array Value) (ds gs : List (DataW H)) (before : List MemPlace)
    (hval : ∀ (j : Nat) t v, Tryd.f3.params[j]? = some t → args[j]? = some v → Value.okWide Tryd.prog W .any base t v)
    (hW : DataW.Whole enc Tryd.prog Tryd.f3.params.toList Rows.wholeTellsSpec.vars false W args.toList ds gs before) (hL : laidMetH Tryd.prog Rows.wholeTellsRow.laid W) :
    Calls Tryd.prog 3 args W fun e W' => ∃ v, e = .returned v ∧ Rows.wholeTellsSpec.post enc Tryd.prog Tryd.f3 false true false false W args v W' := by
  have hW' := hW
  obtain ⟨p, q, hA0, hV, rfl, hfz, hnd⟩ := hW
  have hA : DataW.TrodAll enc Tryd.prog W 0 (fun _ => true) true Tryd.f3.params.toList args.toList ds p := hA0
  rw [Tryd.params3] at hA hval
  obtain ⟨v0, vs0, d0, ds0, p0, q0, hargs, rfl, rfl, h0, r0⟩ := trodAll_cons hA
  obtain ⟨v1, vs1, d1, ds1, p1, q1, rfl, rfl, rfl, h1, r1⟩ := trodAll_cons r0
  obtain ⟨v2, vs2, d2, ds2, p2, q2, rfl, rfl, rfl, h2, r2⟩ := trodAll_cons r1
  obtain ⟨rfl, rfl, rfl⟩ := trodAll_nil r2
  obtain rfl : args = #[v0, v1, v2] := by cases args; simp_all
  obtain ⟨rfl, rfl⟩ := trodVars_none hV
  have lt0 : ∀ x ∈ p0, x.block < W.heap.size := by obtain ⟨m, hm⟩ := h0; exact DataW.trod_lt m _ _ _ hm
  obtain ⟨s0, a0, l0, c0, rfl, i0⟩ := intx_of h0 (agg_of (hval 0 24 v0 rfl rfl))
  have lt1 : ∀ x ∈ p1, x.block < W.heap.size := by obtain ⟨m, hm⟩ := h1; exact DataW.trod_lt m _ _ _ hm
  obtain ⟨s1, a1, l1, c1, rfl, i1⟩ := intx_of h1 (agg_of (hval 1 24 v1 rfl rfl))
  obtain ⟨a2, rfl, rfl, rfl, w2⟩ := open_int Tryd.underlying2 (hval 2 2 v2 rfl rfl) h2
  refine (wtells_any i0 i1 (bounds_i64 w2) (tab_of hL)).mono fun e W' ⟨he, bel⟩ => ?_
  subst he
  exact ⟨_, rfl, _, _, _, [], _, [], hW', trodAll_mk1 (shut_bool Tryd.underlying4 _), (trodAll_cons_mk (Below.trod laidOut (by kernel_rfl) (of_decide_eq_true (by kernel_rfl)) h0 bel lt0) (trodAll_cons_mk (Below.trod laidOut (by kernel_rfl) (of_decide_eq_true (by kernel_rfl)) h1 bel lt1) (trodAll_cons_mk (shut_int Tryd.underlying2 w2) trodAll_mk0))), rfl, bel.frame _, fun h => by cases h⟩

theorem laid_met (os : Os) : laidMet Tryd.prog Rows.wholeTellsRow.laid ((laidWorld os).forCall (fun _ _ => 0) ⟨#[], #[.agg #[.bool false, .slice none 0 0], .agg #[.bool false, .slice none 0 0], .int .i64 0], []⟩).memory :=
  laidMet_of_run' 8 (by kernel_rfl) (by kernel_rfl)
set_option maxRecDepth 100000 in
theorem reads (os : Os) {H : Type} (enc : TypeId × Value → H) : ∃ places, DataW.whole enc Tryd.prog ((laidWorld os).forCall (fun _ _ => 0) ⟨#[], #[.agg #[.bool false, .slice none 0 0], .agg #[.bool false, .slice none 0 0], .int .i64 0], []⟩).memory Tryd.f3.params.toList Rows.wholeTellsSpec.vars false (#[.agg #[.bool false, .slice none 0 0], .agg #[.bool false, .slice none 0 0], .int .i64 0] : Array Value).toList 8 = some ([.agg [.lit (.bool false), .nil], .agg [.lit (.bool false), .nil], .lit (.int .i64 0)], [], places) :=
  ⟨[], by kernel_rfl⟩

set_option maxRecDepth 100000 in
theorem lifted (os : Os) (started : os.Started) (H : Type) (enc : TypeId × Value → H) (F : Stop.Interp) :
    ReturnsInHanded {} Tryd.checked os 3 .any ((OpenSpec.ofChange Rows.wholeTellsSpec).preRow enc Tryd.prog Tryd.f3 Rows.wholeTellsRow.domain false Rows.wholeTellsRow.laid) (((OpenSpec.ofChange Rows.wholeTellsSpec).at F).post enc Tryd.prog Tryd.f3 false true false false) := by
  obtain ⟨places, hx⟩ := reads os enc
  refine returnsInHanded_of_row (C := Tryd.checked) (s := OpenSpec.ofChange Rows.wholeTellsSpec) own started (by kernel_rfl) Tryd.func3
    (witness_row_at (enc := enc) (C := Tryd.checked) false (laidWorld os) #[.agg #[.bool false, .slice none 0 0], .agg #[.bool false, .slice none 0 0], .int .i64 0] rfl (by kernel_rfl) (by kernel_rfl) (by kernel_rfl)
      (OpenSpec.preRow_of_cond 8 hx (by kernel_rfl) (fun k hk => by cases hk) (by kernel_rfl) (laid_met os))) ?_
  intro W base args ds gs before hval hW _ _ _ hL _ _
  exact contract H enc W base args ds gs before hval hW hL

theorem said : Rows.WholeTellsSaid :=
  OpenClaim.holds_of_cond 3 Tryd.f3 rfl rfl rfl rfl rfl rfl rfl ⟨rfl, rfl, rfl, rfl, rfl⟩ rfl rfl rfl rfl rfl (by kernel_rfl) Tryd.func3 (by kernel_rfl)
    (of_decide_eq_true (by kernel_rfl)) (by unfold Func.isWrapper; first | (rw [if_pos (by decide +kernel)]; kernel_rfl) | (rw [if_neg (by decide +kernel)]; exact ⟨rfl, rfl⟩))
    (fun os started H enc _ F => by rw [OpenClaim.pre_eq_preRow]; exact lifted os started H enc F)

theorem plain (f : FuncId) (fn : Func) (hf : Tryd.pinned.checked.prog.funcNamed "tripwire/tripwirelaw02.WholeTells" = some f) (hfn : Tryd.pinned.checked.prog.funcs[f]? = some fn) :
    true = Tryd.pinned.checked.prog.looks [] ∧ ∀ (j : Nat) t, fn.params[j]? = some t → Tryd.pinned.checked.prog.wantsStandIn t = false := by
  obtain rfl : f = 3 := Option.some.inj ((show Tryd.prog.funcNamed "tripwire/tripwirelaw02.WholeTells" = some 3 by kernel_rfl).symm.trans hf) |>.symm
  obtain rfl : fn = Tryd.f3 := (Option.some.inj (Tryd.func3.symm.trans hfn)).symm
  refine ⟨by kernel_rfl, fun j t ht => ?_⟩
  rw [Tryd.params3] at ht
  have hm := Array.mem_of_getElem? ht
  simp only [List.mem_toArray, List.mem_cons, List.not_mem_nil, or_false] at hm
  rcases hm with rfl | rfl | rfl
  · exact (show Tryd.prog.wantsStandIn 24 = false by kernel_rfl)
  · exact (show Tryd.prog.wantsStandIn 24 = false by kernel_rfl)
  · exact (show Tryd.prog.wantsStandIn 2 = false by kernel_rfl)

/-- The card. -/
theorem card : Rows.WholeTellsCardSaid :=
  Claim7.holds_tied_plain_at .later [] _ _ _ _ said (fun _ h => by cases h) (by kernel_rfl) (fun _ h => by cases h) wholeTells_row_tie rfl ⟨rfl, rfl⟩ (by kernel_rfl) rfl plain (by kernel_rfl)
end wholeTells
end Go.Proofs.YtihdaemjabhhkaaDoor
