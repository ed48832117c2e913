/-
  Structs of several cells are stored over. Written by wip/gen/stores.py.
-/
import Derived.Test.YtionhpangenhnaaDoorZWb
import Derived.Test.YtionhpangenhnaaDoorZSched
namespace Go.Proofs.YtionhpangenhnaaDoor
open Go.RowKit Tw

/-- A struct of 1 cells is stored over. -/
theorem store1 {w : World} {b : Nat} {t : TypeId} {u0 : Value} (v0 : Value) (h0 : Bx w b #[u0] t) (n0 : ∀ n, u0 ≠ .int .u64 n) :
    ∃ W, W = w.setCell ⟨b, 0, none⟩ v0 ∧ Bx W b #[v0] t ∧ K64 w W ∧ (∀ b' cs t', b' ≠ b → Bx w b' cs t' → Bx W b' cs t') ∧ (∀ B w0, B ≤ b → Below B w0 w → Below B w0 W) := by
  have h1 : Bx (w.setCell ⟨b, 0, none⟩ v0) b #[v0] t := h0.set 0 v0
  have k0 : K64 (w) (w.setCell ⟨b, 0, none⟩ v0) := K64.box h0 (i := 0) rfl n0 v0
  exact ⟨_, rfl, h1, k0, fun b' cs t' hb hx => (hx.far hb v0), fun B w0 hB hb => (hb.setCell hB v0)⟩
/-- A struct of 4 cells is stored over. -/
theorem store4 {w : World} {b : Nat} {t : TypeId} {u0 u1 u2 u3 : Value} (v0 v1 v2 v3 : Value) (h0 : Bx w b #[u0, u1, u2, u3] t) (n0 : ∀ n, u0 ≠ .int .u64 n) (n1 : ∀ n, u1 ≠ .int .u64 n) (n2 : ∀ n, u2 ≠ .int .u64 n) (n3 : ∀ n, u3 ≠ .int .u64 n) :
    ∃ W, W = (((w.setCell ⟨b, 0, none⟩ v0).setCell ⟨b, 1, none⟩ v1).setCell ⟨b, 2, none⟩ v2).setCell ⟨b, 3, none⟩ v3 ∧ Bx W b #[v0, v1, v2, v3] t ∧ K64 w W ∧ (∀ b' cs t', b' ≠ b → Bx w b' cs t' → Bx W b' cs t') ∧ (∀ B w0, B ≤ b → Below B w0 w → Below B w0 W) := by
  have h1 : Bx (w.setCell ⟨b, 0, none⟩ v0) b #[v0, u1, u2, u3] t := h0.set 0 v0
  have h2 : Bx ((w.setCell ⟨b, 0, none⟩ v0).setCell ⟨b, 1, none⟩ v1) b #[v0, v1, u2, u3] t := h1.set 1 v1
  have h3 : Bx (((w.setCell ⟨b, 0, none⟩ v0).setCell ⟨b, 1, none⟩ v1).setCell ⟨b, 2, none⟩ v2) b #[v0, v1, v2, u3] t := h2.set 2 v2
  have h4 : Bx ((((w.setCell ⟨b, 0, none⟩ v0).setCell ⟨b, 1, none⟩ v1).setCell ⟨b, 2, none⟩ v2).setCell ⟨b, 3, none⟩ v3) b #[v0, v1, v2, v3] t := h3.set 3 v3
  have k0 : K64 (w) (w.setCell ⟨b, 0, none⟩ v0) := K64.box h0 (i := 0) rfl n0 v0
  have k1 : K64 (w.setCell ⟨b, 0, none⟩ v0) ((w.setCell ⟨b, 0, none⟩ v0).setCell ⟨b, 1, none⟩ v1) := K64.box h1 (i := 1) rfl n1 v1
  have k2 : K64 ((w.setCell ⟨b, 0, none⟩ v0).setCell ⟨b, 1, none⟩ v1) (((w.setCell ⟨b, 0, none⟩ v0).setCell ⟨b, 1, none⟩ v1).setCell ⟨b, 2, none⟩ v2) := K64.box h2 (i := 2) rfl n2 v2
  have k3 : K64 (((w.setCell ⟨b, 0, none⟩ v0).setCell ⟨b, 1, none⟩ v1).setCell ⟨b, 2, none⟩ v2) ((((w.setCell ⟨b, 0, none⟩ v0).setCell ⟨b, 1, none⟩ v1).setCell ⟨b, 2, none⟩ v2).setCell ⟨b, 3, none⟩ v3) := K64.box h3 (i := 3) rfl n3 v3
  exact ⟨_, rfl, h4, (((k0.trans k1).trans k2).trans k3), fun b' cs t' hb hx => ((((hx.far hb v0).far hb v1).far hb v2).far hb v3), fun B w0 hB hb => ((((hb.setCell hB v0).setCell hB v1).setCell hB v2).setCell hB v3)⟩
/-- A struct of 5 cells is stored over. -/
theorem store5 {w : World} {b : Nat} {t : TypeId} {u0 u1 u2 u3 u4 : Value} (v0 v1 v2 v3 v4 : Value) (h0 : Bx w b #[u0, u1, u2, u3, u4] t) (n0 : ∀ n, u0 ≠ .int .u64 n) (n1 : ∀ n, u1 ≠ .int .u64 n) (n2 : ∀ n, u2 ≠ .int .u64 n) (n3 : ∀ n, u3 ≠ .int .u64 n) (n4 : ∀ n, u4 ≠ .int .u64 n) :
    ∃ W, W = ((((w.setCell ⟨b, 0, none⟩ v0).setCell ⟨b, 1, none⟩ v1).setCell ⟨b, 2, none⟩ v2).setCell ⟨b, 3, none⟩ v3).setCell ⟨b, 4, none⟩ v4 ∧ Bx W b #[v0, v1, v2, v3, v4] t ∧ K64 w W ∧ (∀ b' cs t', b' ≠ b → Bx w b' cs t' → Bx W b' cs t') ∧ (∀ B w0, B ≤ b → Below B w0 w → Below B w0 W) := by
  have h1 : Bx (w.setCell ⟨b, 0, none⟩ v0) b #[v0, u1, u2, u3, u4] t := h0.set 0 v0
  have h2 : Bx ((w.setCell ⟨b, 0, none⟩ v0).setCell ⟨b, 1, none⟩ v1) b #[v0, v1, u2, u3, u4] t := h1.set 1 v1
  have h3 : Bx (((w.setCell ⟨b, 0, none⟩ v0).setCell ⟨b, 1, none⟩ v1).setCell ⟨b, 2, none⟩ v2) b #[v0, v1, v2, u3, u4] t := h2.set 2 v2
  have h4 : Bx ((((w.setCell ⟨b, 0, none⟩ v0).setCell ⟨b, 1, none⟩ v1).setCell ⟨b, 2, none⟩ v2).setCell ⟨b, 3, none⟩ v3) b #[v0, v1, v2, v3, u4] t := h3.set 3 v3
  have h5 : Bx (((((w.setCell ⟨b, 0, none⟩ v0).setCell ⟨b, 1, none⟩ v1).setCell ⟨b, 2, none⟩ v2).setCell ⟨b, 3, none⟩ v3).setCell ⟨b, 4, none⟩ v4) b #[v0, v1, v2, v3, v4] t := h4.set 4 v4
  have k0 : K64 (w) (w.setCell ⟨b, 0, none⟩ v0) := K64.box h0 (i := 0) rfl n0 v0
  have k1 : K64 (w.setCell ⟨b, 0, none⟩ v0) ((w.setCell ⟨b, 0, none⟩ v0).setCell ⟨b, 1, none⟩ v1) := K64.box h1 (i := 1) rfl n1 v1
  have k2 : K64 ((w.setCell ⟨b, 0, none⟩ v0).setCell ⟨b, 1, none⟩ v1) (((w.setCell ⟨b, 0, none⟩ v0).setCell ⟨b, 1, none⟩ v1).setCell ⟨b, 2, none⟩ v2) := K64.box h2 (i := 2) rfl n2 v2
  have k3 : K64 (((w.setCell ⟨b, 0, none⟩ v0).setCell ⟨b, 1, none⟩ v1).setCell ⟨b, 2, none⟩ v2) ((((w.setCell ⟨b, 0, none⟩ v0).setCell ⟨b, 1, none⟩ v1).setCell ⟨b, 2, none⟩ v2).setCell ⟨b, 3, none⟩ v3) := K64.box h3 (i := 3) rfl n3 v3
  have k4 : K64 ((((w.setCell ⟨b, 0, none⟩ v0).setCell ⟨b, 1, none⟩ v1).setCell ⟨b, 2, none⟩ v2).setCell ⟨b, 3, none⟩ v3) (((((w.setCell ⟨b, 0, none⟩ v0).setCell ⟨b, 1, none⟩ v1).setCell ⟨b, 2, none⟩ v2).setCell ⟨b, 3, none⟩ v3).setCell ⟨b, 4, none⟩ v4) := K64.box h4 (i := 4) rfl n4 v4
  exact ⟨_, rfl, h5, ((((k0.trans k1).trans k2).trans k3).trans k4), fun b' cs t' hb hx => (((((hx.far hb v0).far hb v1).far hb v2).far hb v3).far hb v4), fun B w0 hB hb => (((((hb.setCell hB v0).setCell hB v1).setCell hB v2).setCell hB v3).setCell hB v4)⟩
/-- A struct of 7 cells is stored over. -/
theorem store7 {w : World} {b : Nat} {t : TypeId} {u0 u1 u2 u3 u4 u5 u6 : Value} (v0 v1 v2 v3 v4 v5 v6 : Value) (h0 : Bx w b #[u0, u1, u2, u3, u4, u5, u6] t) (n0 : ∀ n, u0 ≠ .int .u64 n) (n1 : ∀ n, u1 ≠ .int .u64 n) (n2 : ∀ n, u2 ≠ .int .u64 n) (n3 : ∀ n, u3 ≠ .int .u64 n) (n4 : ∀ n, u4 ≠ .int .u64 n) (n5 : ∀ n, u5 ≠ .int .u64 n) (n6 : ∀ n, u6 ≠ .int .u64 n) :
    ∃ W, W = ((((((w.setCell ⟨b, 0, none⟩ v0).setCell ⟨b, 1, none⟩ v1).setCell ⟨b, 2, none⟩ v2).setCell ⟨b, 3, none⟩ v3).setCell ⟨b, 4, none⟩ v4).setCell ⟨b, 5, none⟩ v5).setCell ⟨b, 6, none⟩ v6 ∧ Bx W b #[v0, v1, v2, v3, v4, v5, v6] t ∧ K64 w W ∧ (∀ b' cs t', b' ≠ b → Bx w b' cs t' → Bx W b' cs t') ∧ (∀ B w0, B ≤ b → Below B w0 w → Below B w0 W) := by
  have h1 : Bx (w.setCell ⟨b, 0, none⟩ v0) b #[v0, u1, u2, u3, u4, u5, u6] t := h0.set 0 v0
  have h2 : Bx ((w.setCell ⟨b, 0, none⟩ v0).setCell ⟨b, 1, none⟩ v1) b #[v0, v1, u2, u3, u4, u5, u6] t := h1.set 1 v1
  have h3 : Bx (((w.setCell ⟨b, 0, none⟩ v0).setCell ⟨b, 1, none⟩ v1).setCell ⟨b, 2, none⟩ v2) b #[v0, v1, v2, u3, u4, u5, u6] t := h2.set 2 v2
  have h4 : Bx ((((w.setCell ⟨b, 0, none⟩ v0).setCell ⟨b, 1, none⟩ v1).setCell ⟨b, 2, none⟩ v2).setCell ⟨b, 3, none⟩ v3) b #[v0, v1, v2, v3, u4, u5, u6] t := h3.set 3 v3
  have h5 : Bx (((((w.setCell ⟨b, 0, none⟩ v0).setCell ⟨b, 1, none⟩ v1).setCell ⟨b, 2, none⟩ v2).setCell ⟨b, 3, none⟩ v3).setCell ⟨b, 4, none⟩ v4) b #[v0, v1, v2, v3, v4, u5, u6] t := h4.set 4 v4
  have h6 : Bx ((((((w.setCell ⟨b, 0, none⟩ v0).setCell ⟨b, 1, none⟩ v1).setCell ⟨b, 2, none⟩ v2).setCell ⟨b, 3, none⟩ v3).setCell ⟨b, 4, none⟩ v4).setCell ⟨b, 5, none⟩ v5) b #[v0, v1, v2, v3, v4, v5, u6] t := h5.set 5 v5
  have h7 : Bx (((((((w.setCell ⟨b, 0, none⟩ v0).setCell ⟨b, 1, none⟩ v1).setCell ⟨b, 2, none⟩ v2).setCell ⟨b, 3, none⟩ v3).setCell ⟨b, 4, none⟩ v4).setCell ⟨b, 5, none⟩ v5).setCell ⟨b, 6, none⟩ v6) b #[v0, v1, v2, v3, v4, v5, v6] t := h6.set 6 v6
  have k0 : K64 (w) (w.setCell ⟨b, 0, none⟩ v0) := K64.box h0 (i := 0) rfl n0 v0
  have k1 : K64 (w.setCell ⟨b, 0, none⟩ v0) ((w.setCell ⟨b, 0, none⟩ v0).setCell ⟨b, 1, none⟩ v1) := K64.box h1 (i := 1) rfl n1 v1
  have k2 : K64 ((w.setCell ⟨b, 0, none⟩ v0).setCell ⟨b, 1, none⟩ v1) (((w.setCell ⟨b, 0, none⟩ v0).setCell ⟨b, 1, none⟩ v1).setCell ⟨b, 2, none⟩ v2) := K64.box h2 (i := 2) rfl n2 v2
  have k3 : K64 (((w.setCell ⟨b, 0, none⟩ v0).setCell ⟨b, 1, none⟩ v1).setCell ⟨b, 2, none⟩ v2) ((((w.setCell ⟨b, 0, none⟩ v0).setCell ⟨b, 1, none⟩ v1).setCell ⟨b, 2, none⟩ v2).setCell ⟨b, 3, none⟩ v3) := K64.box h3 (i := 3) rfl n3 v3
  have k4 : K64 ((((w.setCell ⟨b, 0, none⟩ v0).setCell ⟨b, 1, none⟩ v1).setCell ⟨b, 2, none⟩ v2).setCell ⟨b, 3, none⟩ v3) (((((w.setCell ⟨b, 0, none⟩ v0).setCell ⟨b, 1, none⟩ v1).setCell ⟨b, 2, none⟩ v2).setCell ⟨b, 3, none⟩ v3).setCell ⟨b, 4, none⟩ v4) := K64.box h4 (i := 4) rfl n4 v4
  have k5 : K64 (((((w.setCell ⟨b, 0, none⟩ v0).setCell ⟨b, 1, none⟩ v1).setCell ⟨b, 2, none⟩ v2).setCell ⟨b, 3, none⟩ v3).setCell ⟨b, 4, none⟩ v4) ((((((w.setCell ⟨b, 0, none⟩ v0).setCell ⟨b, 1, none⟩ v1).setCell ⟨b, 2, none⟩ v2).setCell ⟨b, 3, none⟩ v3).setCell ⟨b, 4, none⟩ v4).setCell ⟨b, 5, none⟩ v5) := K64.box h5 (i := 5) rfl n5 v5
  have k6 : K64 ((((((w.setCell ⟨b, 0, none⟩ v0).setCell ⟨b, 1, none⟩ v1).setCell ⟨b, 2, none⟩ v2).setCell ⟨b, 3, none⟩ v3).setCell ⟨b, 4, none⟩ v4).setCell ⟨b, 5, none⟩ v5) (((((((w.setCell ⟨b, 0, none⟩ v0).setCell ⟨b, 1, none⟩ v1).setCell ⟨b, 2, none⟩ v2).setCell ⟨b, 3, none⟩ v3).setCell ⟨b, 4, none⟩ v4).setCell ⟨b, 5, none⟩ v5).setCell ⟨b, 6, none⟩ v6) := K64.box h6 (i := 6) rfl n6 v6
  exact ⟨_, rfl, h7, ((((((k0.trans k1).trans k2).trans k3).trans k4).trans k5).trans k6), fun b' cs t' hb hx => (((((((hx.far hb v0).far hb v1).far hb v2).far hb v3).far hb v4).far hb v5).far hb v6), fun B w0 hB hb => (((((((hb.setCell hB v0).setCell hB v1).setCell hB v2).setCell hB v3).setCell hB v4).setCell hB v5).setCell hB v6)⟩
/-- A struct of 8 cells is stored over. -/
theorem store8 {w : World} {b : Nat} {t : TypeId} {u0 u1 u2 u3 u4 u5 u6 u7 : Value} (v0 v1 v2 v3 v4 v5 v6 v7 : Value) (h0 : Bx w b #[u0, u1, u2, u3, u4, u5, u6, u7] t) (n0 : ∀ n, u0 ≠ .int .u64 n) (n1 : ∀ n, u1 ≠ .int .u64 n) (n2 : ∀ n, u2 ≠ .int .u64 n) (n3 : ∀ n, u3 ≠ .int .u64 n) (n4 : ∀ n, u4 ≠ .int .u64 n) (n5 : ∀ n, u5 ≠ .int .u64 n) (n6 : ∀ n, u6 ≠ .int .u64 n) (n7 : ∀ n, u7 ≠ .int .u64 n) :
    ∃ W, W = (((((((w.setCell ⟨b, 0, none⟩ v0).setCell ⟨b, 1, none⟩ v1).setCell ⟨b, 2, none⟩ v2).setCell ⟨b, 3, none⟩ v3).setCell ⟨b, 4, none⟩ v4).setCell ⟨b, 5, none⟩ v5).setCell ⟨b, 6, none⟩ v6).setCell ⟨b, 7, none⟩ v7 ∧ Bx W b #[v0, v1, v2, v3, v4, v5, v6, v7] t ∧ K64 w W ∧ (∀ b' cs t', b' ≠ b → Bx w b' cs t' → Bx W b' cs t') ∧ (∀ B w0, B ≤ b → Below B w0 w → Below B w0 W) := by
  have h1 : Bx (w.setCell ⟨b, 0, none⟩ v0) b #[v0, u1, u2, u3, u4, u5, u6, u7] t := h0.set 0 v0
  have h2 : Bx ((w.setCell ⟨b, 0, none⟩ v0).setCell ⟨b, 1, none⟩ v1) b #[v0, v1, u2, u3, u4, u5, u6, u7] t := h1.set 1 v1
  have h3 : Bx (((w.setCell ⟨b, 0, none⟩ v0).setCell ⟨b, 1, none⟩ v1).setCell ⟨b, 2, none⟩ v2) b #[v0, v1, v2, u3, u4, u5, u6, u7] t := h2.set 2 v2
  have h4 : Bx ((((w.setCell ⟨b, 0, none⟩ v0).setCell ⟨b, 1, none⟩ v1).setCell ⟨b, 2, none⟩ v2).setCell ⟨b, 3, none⟩ v3) b #[v0, v1, v2, v3, u4, u5, u6, u7] t := h3.set 3 v3
  have h5 : Bx (((((w.setCell ⟨b, 0, none⟩ v0).setCell ⟨b, 1, none⟩ v1).setCell ⟨b, 2, none⟩ v2).setCell ⟨b, 3, none⟩ v3).setCell ⟨b, 4, none⟩ v4) b #[v0, v1, v2, v3, v4, u5, u6, u7] t := h4.set 4 v4
  have h6 : Bx ((((((w.setCell ⟨b, 0, none⟩ v0).setCell ⟨b, 1, none⟩ v1).setCell ⟨b, 2, none⟩ v2).setCell ⟨b, 3, none⟩ v3).setCell ⟨b, 4, none⟩ v4).setCell ⟨b, 5, none⟩ v5) b #[v0, v1, v2, v3, v4, v5, u6, u7] t := h5.set 5 v5
  have h7 : Bx (((((((w.setCell ⟨b, 0, none⟩ v0).setCell ⟨b, 1, none⟩ v1).setCell ⟨b, 2, none⟩ v2).setCell ⟨b, 3, none⟩ v3).setCell ⟨b, 4, none⟩ v4).setCell ⟨b, 5, none⟩ v5).setCell ⟨b, 6, none⟩ v6) b #[v0, v1, v2, v3, v4, v5, v6, u7] t := h6.set 6 v6
  have h8 : Bx ((((((((w.setCell ⟨b, 0, none⟩ v0).setCell ⟨b, 1, none⟩ v1).setCell ⟨b, 2, none⟩ v2).setCell ⟨b, 3, none⟩ v3).setCell ⟨b, 4, none⟩ v4).setCell ⟨b, 5, none⟩ v5).setCell ⟨b, 6, none⟩ v6).setCell ⟨b, 7, none⟩ v7) b #[v0, v1, v2, v3, v4, v5, v6, v7] t := h7.set 7 v7
  have k0 : K64 (w) (w.setCell ⟨b, 0, none⟩ v0) := K64.box h0 (i := 0) rfl n0 v0
  have k1 : K64 (w.setCell ⟨b, 0, none⟩ v0) ((w.setCell ⟨b, 0, none⟩ v0).setCell ⟨b, 1, none⟩ v1) := K64.box h1 (i := 1) rfl n1 v1
  have k2 : K64 ((w.setCell ⟨b, 0, none⟩ v0).setCell ⟨b, 1, none⟩ v1) (((w.setCell ⟨b, 0, none⟩ v0).setCell ⟨b, 1, none⟩ v1).setCell ⟨b, 2, none⟩ v2) := K64.box h2 (i := 2) rfl n2 v2
  have k3 : K64 (((w.setCell ⟨b, 0, none⟩ v0).setCell ⟨b, 1, none⟩ v1).setCell ⟨b, 2, none⟩ v2) ((((w.setCell ⟨b, 0, none⟩ v0).setCell ⟨b, 1, none⟩ v1).setCell ⟨b, 2, none⟩ v2).setCell ⟨b, 3, none⟩ v3) := K64.box h3 (i := 3) rfl n3 v3
  have k4 : K64 ((((w.setCell ⟨b, 0, none⟩ v0).setCell ⟨b, 1, none⟩ v1).setCell ⟨b, 2, none⟩ v2).setCell ⟨b, 3, none⟩ v3) (((((w.setCell ⟨b, 0, none⟩ v0).setCell ⟨b, 1, none⟩ v1).setCell ⟨b, 2, none⟩ v2).setCell ⟨b, 3, none⟩ v3).setCell ⟨b, 4, none⟩ v4) := K64.box h4 (i := 4) rfl n4 v4
  have k5 : K64 (((((w.setCell ⟨b, 0, none⟩ v0).setCell ⟨b, 1, none⟩ v1).setCell ⟨b, 2, none⟩ v2).setCell ⟨b, 3, none⟩ v3).setCell ⟨b, 4, none⟩ v4) ((((((w.setCell ⟨b, 0, none⟩ v0).setCell ⟨b, 1, none⟩ v1).setCell ⟨b, 2, none⟩ v2).setCell ⟨b, 3, none⟩ v3).setCell ⟨b, 4, none⟩ v4).setCell ⟨b, 5, none⟩ v5) := K64.box h5 (i := 5) rfl n5 v5
  have k6 : K64 ((((((w.setCell ⟨b, 0, none⟩ v0).setCell ⟨b, 1, none⟩ v1).setCell ⟨b, 2, none⟩ v2).setCell ⟨b, 3, none⟩ v3).setCell ⟨b, 4, none⟩ v4).setCell ⟨b, 5, none⟩ v5) (((((((w.setCell ⟨b, 0, none⟩ v0).setCell ⟨b, 1, none⟩ v1).setCell ⟨b, 2, none⟩ v2).setCell ⟨b, 3, none⟩ v3).setCell ⟨b, 4, none⟩ v4).setCell ⟨b, 5, none⟩ v5).setCell ⟨b, 6, none⟩ v6) := K64.box h6 (i := 6) rfl n6 v6
  have k7 : K64 (((((((w.setCell ⟨b, 0, none⟩ v0).setCell ⟨b, 1, none⟩ v1).setCell ⟨b, 2, none⟩ v2).setCell ⟨b, 3, none⟩ v3).setCell ⟨b, 4, none⟩ v4).setCell ⟨b, 5, none⟩ v5).setCell ⟨b, 6, none⟩ v6) ((((((((w.setCell ⟨b, 0, none⟩ v0).setCell ⟨b, 1, none⟩ v1).setCell ⟨b, 2, none⟩ v2).setCell ⟨b, 3, none⟩ v3).setCell ⟨b, 4, none⟩ v4).setCell ⟨b, 5, none⟩ v5).setCell ⟨b, 6, none⟩ v6).setCell ⟨b, 7, none⟩ v7) := K64.box h7 (i := 7) rfl n7 v7
  exact ⟨_, rfl, h8, (((((((k0.trans k1).trans k2).trans k3).trans k4).trans k5).trans k6).trans k7), fun b' cs t' hb hx => ((((((((hx.far hb v0).far hb v1).far hb v2).far hb v3).far hb v4).far hb v5).far hb v6).far hb v7), fun B w0 hB hb => ((((((((hb.setCell hB v0).setCell hB v1).setCell hB v2).setCell hB v3).setCell hB v4).setCell hB v5).setCell hB v6).setCell hB v7)⟩
theorem cell_off4 {w : World} {b b' j : Nat} {u0 u1 u2 u3 : Value} (h : b ≠ b') : ((((w.setCell ⟨b, 0, none⟩ u0).setCell ⟨b, 1, none⟩ u1).setCell ⟨b, 2, none⟩ u2).setCell ⟨b, 3, none⟩ u3).cell? ⟨b', j, none⟩ = w.cell? ⟨b', j, none⟩ := by
  rw [World.cell?_setCell_other _ _ _ _ (by intro e; cases e; exact h rfl), World.cell?_setCell_other _ _ _ _ (by intro e; cases e; exact h rfl), World.cell?_setCell_other _ _ _ _ (by intro e; cases e; exact h rfl), World.cell?_setCell_other _ _ _ _ (by intro e; cases e; exact h rfl)]
theorem cell_off5 {w : World} {b b' j : Nat} {u0 u1 u2 u3 u4 : Value} (h : b ≠ b') : (((((w.setCell ⟨b, 0, none⟩ u0).setCell ⟨b, 1, none⟩ u1).setCell ⟨b, 2, none⟩ u2).setCell ⟨b, 3, none⟩ u3).setCell ⟨b, 4, none⟩ u4).cell? ⟨b', j, none⟩ = w.cell? ⟨b', j, none⟩ := by
  rw [World.cell?_setCell_other _ _ _ _ (by intro e; cases e; exact h rfl), World.cell?_setCell_other _ _ _ _ (by intro e; cases e; exact h rfl), World.cell?_setCell_other _ _ _ _ (by intro e; cases e; exact h rfl), World.cell?_setCell_other _ _ _ _ (by intro e; cases e; exact h rfl), World.cell?_setCell_other _ _ _ _ (by intro e; cases e; exact h rfl)]
theorem cell_off7 {w : World} {b b' j : Nat} {u0 u1 u2 u3 u4 u5 u6 : Value} (h : b ≠ b') : (((((((w.setCell ⟨b, 0, none⟩ u0).setCell ⟨b, 1, none⟩ u1).setCell ⟨b, 2, none⟩ u2).setCell ⟨b, 3, none⟩ u3).setCell ⟨b, 4, none⟩ u4).setCell ⟨b, 5, none⟩ u5).setCell ⟨b, 6, none⟩ u6).cell? ⟨b', j, none⟩ = w.cell? ⟨b', j, none⟩ := by
  rw [World.cell?_setCell_other _ _ _ _ (by intro e; cases e; exact h rfl), World.cell?_setCell_other _ _ _ _ (by intro e; cases e; exact h rfl), World.cell?_setCell_other _ _ _ _ (by intro e; cases e; exact h rfl), World.cell?_setCell_other _ _ _ _ (by intro e; cases e; exact h rfl), World.cell?_setCell_other _ _ _ _ (by intro e; cases e; exact h rfl), World.cell?_setCell_other _ _ _ _ (by intro e; cases e; exact h rfl), World.cell?_setCell_other _ _ _ _ (by intro e; cases e; exact h rfl)]
theorem cell_off8 {w : World} {b b' j : Nat} {u0 u1 u2 u3 u4 u5 u6 u7 : Value} (h : b ≠ b') : ((((((((w.setCell ⟨b, 0, none⟩ u0).setCell ⟨b, 1, none⟩ u1).setCell ⟨b, 2, none⟩ u2).setCell ⟨b, 3, none⟩ u3).setCell ⟨b, 4, none⟩ u4).setCell ⟨b, 5, none⟩ u5).setCell ⟨b, 6, none⟩ u6).setCell ⟨b, 7, none⟩ u7).cell? ⟨b', j, none⟩ = w.cell? ⟨b', j, none⟩ := by
  rw [World.cell?_setCell_other _ _ _ _ (by intro e; cases e; exact h rfl), World.cell?_setCell_other _ _ _ _ (by intro e; cases e; exact h rfl), World.cell?_setCell_other _ _ _ _ (by intro e; cases e; exact h rfl), World.cell?_setCell_other _ _ _ _ (by intro e; cases e; exact h rfl), World.cell?_setCell_other _ _ _ _ (by intro e; cases e; exact h rfl), World.cell?_setCell_other _ _ _ _ (by intro e; cases e; exact h rfl), World.cell?_setCell_other _ _ _ _ (by intro e; cases e; exact h rfl), World.cell?_setCell_other _ _ _ _ (by intro e; cases e; exact h rfl)]
end Go.Proofs.YtionhpangenhnaaDoor
