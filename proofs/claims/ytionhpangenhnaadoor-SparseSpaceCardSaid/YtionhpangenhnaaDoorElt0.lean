/-
  Rows that a call owns, of elements of any kind: append as one step; what it leaves alone.
-/
import Derived.Test.YtionhpangenhnaaDoorApp
import Derived.Test.YtionhpangenhnaaDoorRow
namespace Go.Proofs.YtionhpangenhnaaDoor
open Go.RowKit Tw

/-- Slices of type t hold elements of type te, f tells the k cells of one. -/
structure Elt {α : Type} (f : α → List Value) (k : Nat) (t te : TypeId) : Prop where
  ut : Tryd.prog.underlying t = some (.slice te)
  info : ∃ i z, Tryd.prog.info? te = some i ∧ i.zero = some z ∧ i.size = k ∧ i.bytes ≤ 1000 ∧ z.cells.size = k ∧ NoU z.cells
  len : ∀ x, (f x).length = k
  one : ∀ x, ∀ u ∈ f x, u.oneCell' = true
  nou : ∀ x, ∀ u ∈ f x, ∀ n, u ≠ .int .u64 n
section
variable {α : Type} {f : α → List Value} {k : Nat} {t te : TypeId}
theorem Elt.run (E : Elt f k t te) (ty : TypeId) {w : World} {base : Nat} {v : Value} {n : Nat} {L : List α} (hown : OwnR w base te k v n (flat f L)) (x : Value) (m : Nat) (M : List α) (hs : From w k x m (flat f M)) (hn : n + m ≤ 100000000000) (hbase : base ≤ w.heap.size) :
    ∃ H c w', (Builtin.append_ #[t, t] ty #[v, x]).run Tryd.prog w = .ok (.slice H (n + m) c) w' ∧ OwnR w' base te k (.slice H (n + m) c) (n + m) (flat f (L ++ M)) ∧ Grew w w' v (.slice H (n + m) c) := by
  obtain ⟨i, z, h1, h2, h3, h4, h5, h6⟩ := E.info
  have hmem : ∀ u ∈ flat f M, ∃ y ∈ M, u ∈ f y := fun u hu => flat_mem hu
  obtain ⟨v', w', hr, ho, hg⟩ := run_append_all (P := Tryd.prog) w base t ty te i z k i.bytes E.ut h1 h2 h3 rfl h5 h6 v n (flat f L) hown x m (flat f M) hs (fun u hu => by obtain ⟨y, _, hy⟩ := hmem u hu; exact E.one y u hy) (fun u hu => by obtain ⟨y, _, hy⟩ := hmem u hu; exact E.nou y u hy) (by unfold maxLen; omega)
    (Nat.le_trans (Nat.mul_le_mul hn h4) (by omega)) hbase
  rw [← flat_append] at ho
  obtain ⟨H, c, rfl, _⟩ := ho.slice
  exact ⟨H, c, w', hr, ho, hg⟩
theorem Elt.wp (E : Elt f k t te) {w : World} {o : Oper} {a : Act} {K : Act → World → Prop} {Q : Exit → Act → World → Prop} (s x : Operand) (ho : o.op = .call { callee := .builtin .append, args := #[s, x], argTypes := #[t, t] })
    (base : Nat) (v : Value) (n : Nat) (L : List α) (hs : a.eval s = v) (hown : OwnR w base te k v n (flat f L)) (xv : Value) (m : Nat) (M : List α) (hx : a.eval x = xv) (hf : From w k xv m (flat f M)) (hn : n + m ≤ 100000000000) (hbase : base ≤ w.heap.size)
    (h : ∀ H c w', OwnR w' base te k (.slice H (n + m) c) (n + m) (flat f (L ++ M)) → Grew w w' v (.slice H (n + m) c) → K (a.put o.dst (.slice H (n + m) c)) w') : o.wp Tryd.prog a w K Q := by
  obtain ⟨H, c, w', hr, h2, h3⟩ := E.run o.type hown xv m M hf hn hbase
  unfold Oper.wp execOp
  simp only [ho, resolve, invoke, builtin, Sem.run_bind, Sem.run_pure, Result.andThen_ok, List.map_toArray, List.map_cons, List.map_nil, hs, hx, hr]
  exact h H c w' h2 h3
theorem Elt.app (E : Elt f k t te) {w : World} {ops : Array Oper} {rest : List Oper} {o : Oper} {a : Act} {Q : Exit → Act → World → Prop} (hgd : o.guard = none) (s x : Operand) (ho : o.op = .call { callee := .builtin .append, args := #[s, x], argTypes := #[t, t] })
    (base : Nat) (v : Value) (n : Nat) (L : List α) (hs : a.eval s = v) (hown : OwnR w base te k v n (flat f L)) (xv : Value) (m : Nat) (M : List α) (hx : a.eval x = xv) (hf : From w k xv m (flat f M)) (hn : n + m ≤ 100000000000) (hbase : base ≤ w.heap.size)
    (h : ∀ H c w', OwnR w' base te k (.slice H (n + m) c) (n + m) (flat f (L ++ M)) → Grew w w' v (.slice H (n + m) c) → wpList Tryd.prog ops Q rest (a.put o.dst (.slice H (n + m) c)) w') : wpList Tryd.prog ops Q (o :: rest) a w :=
  wpList_plain hgd fun _ hK => E.wp s x ho base v n L hs hown xv m M hx hf hn hbase fun H c w' h2 h3 => hK _ _ (h H c w' h2 h3)
/-- One element, in a literal. -/
theorem From.one {w : World} {b : Nat} {cs : Array Value} {te : TypeId} (h : Bx w b cs te) (x : α) (hx : cs.toList = f x) (hk : (f x).length = k) : From w k (.slice (some ⟨b, 0, none⟩) 1 1) 1 (flat f [x]) := by
  rw [flat_one]
  refine ⟨by omega, _, _, rfl, (fun h => (by cases h)), fun a ha j u hu => ?_⟩
  cases ha
  rw [add_off, Nat.zero_add]
  refine h.cell j u ?_
  rw [← hx] at hu
  simpa using hu
/-- A literal of one element is owned. -/
theorem OwnR.lit1 (E : Elt f k t te) {w : World} {b B : Nat} {cs : Array Value} (h : Bx w b cs te) (hB : B ≤ b) (x : α) (hx : cs.toList = f x) : OwnR w B te k (.slice (some ⟨b, 0, none⟩) 1 1) 1 (flat f [x]) := by
  have hl : cs.size = k := by rw [← E.len x, ← hx]; simp
  rw [flat_one]
  refine ⟨by rw [E.len]; omega, .inr ⟨b, 1, cs, rfl, hB, h, Nat.le_refl _, by unfold maxLen; omega, by omega, ?_, fun u hu n => E.nou x u (by rw [← hx]; simpa using hu) n⟩⟩
  rw [← hx, List.take_of_length_le (by simp; omega)]
/-- A block that was there before is not the row's. -/
theorem OwnR.off {w : World} {B b n size : Nat} {e : TypeId} {v : Value} {xs : List Value} (ho : OwnR w B e size v n xs) (hb : b < B) : some b ≠ v.ownBlock := fun h => by have := ho.base b h.symm; omega
theorem OwnR.off' {w : World} {B b n size : Nat} {e : TypeId} {v : Value} {xs : List Value} (ho : OwnR w B e size v n xs) (hb : w.heap.size ≤ b) : some b ≠ v.ownBlock := fun h => by have := ho.lt b h.symm; omega
theorem OwnR.sl' (_E : Elt f k t te) {w : World} {B n : Nat} {H : Option Addr} {cap : Nat} {L : List α} (ho : OwnR w B te k (.slice H n cap) n (flat f L)) (hl : L.length = n) : Sl f k w H n cap L := ⟨hl, ho.from_⟩
theorem OwnR.grown {w w' : World} {B n size : Nat} {e : TypeId} {v v2 v2' : Value} {xs : List Value} (ho : OwnR w B e size v n xs) (hg : Grew w w' v2 v2') (hne : v.ownBlock = none ∨ v.ownBlock ≠ v2.ownBlock) : OwnR w' B e size v n xs := ho.kept hg.by_ hne
end
theorem Elt.of {α : Type} {f : α → List Value} {k : Nat} {t te : TypeId} (z : Value) (by_ : Nat) (ut : Tryd.prog.underlying t = some (.slice te)) (hi : (Tryd.prog.info? te).map (fun i => (i.zero, i.size, i.bytes)) = some (some z, k, by_)) (hb : by_ ≤ 1000) (hz : z.cells.size = k) (hn : NoU z.cells)
    (len : ∀ x, (f x).length = k) (one : ∀ x, ∀ u ∈ f x, u.oneCell' = true) (nou : ∀ x, ∀ u ∈ f x, ∀ n, u ≠ .int .u64 n) : Elt f k t te := by
  cases h : Tryd.prog.info? te with
  | none => rw [h] at hi; cases hi
  | some i =>
    rw [h] at hi
    simp only [Option.map_some, Option.some.injEq, Prod.mk.injEq] at hi
    exact ⟨ut, ⟨i, z, h, hi.1, hi.2.1, by rw [hi.2.2]; exact hb, hz, hn⟩, len, one, nou⟩
theorem nou_list {z : Array Value} (h : z.toList.all (fun u => match u with | .int .u64 _ => false | _ => true) = true) : NoU z := fun u hu n e => by
  have := List.all_eq_true.1 h u (by simpa using hu)
  rw [e] at this
  cases this
end Go.Proofs.YtionhpangenhnaaDoor
