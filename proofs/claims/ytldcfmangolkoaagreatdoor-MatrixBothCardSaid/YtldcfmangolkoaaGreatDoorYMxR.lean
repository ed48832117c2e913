/-
  Plain laws of matrices: the turned one, Times and Left as sums of products. By hand.
  Rows of a turned matrix while they are made: plain. By hand.
  matrix.Turn. Written by wip/gen/mx4.py.
  matrix.Left. Written by wip/gen/lf1.py.
-/
import Derived.Test.YtldcfmangolkoaaGreatDoorYMxT
import Derived.Test.YtldcfmangolkoaaGreatDoorYMx2
import Derived.Test.YtldcfmangolkoaaGreatDoorYRow
import Derived.Test.YtldcfmangolkoaaGreatDoorYSo4
namespace Go.Proofs.YtldcfmangolkoaaGreatDoor

theorem pget_dot (L : List (Int × Rat)) (a : Int) : pdot [(a, 1)] L = pget L a := by
 rw [pdot_cons, pdot_nil, Rat.add_zero, Rat.one_mul]
theorem pdot_by (Y : List (Int × Rat)) (q : Rat) : ∀ L : List (Int × Rat), pdot Y (L.map fun c => (c.1, c.2 * q)) = pdot Y L * q
 | [] => by rw [List.map_nil, pdot_nil_right, Rat.zero_mul]
 | c :: L => by rw [List.map_cons, pdot_cons_right, pdot_cons_right, pdot_by Y q L, Rat.add_mul, Rat.mul_assoc]
theorem pdot_append_right (Y A B : List (Int × Rat)) : pdot Y (A ++ B) = pdot Y A + pdot Y B := by rw [pdot_comm, pdot_append, pdot_comm A, pdot_comm B]
theorem idxP_get : ∀ (l : List Rat) (a : Int), pget (idxP l) a = if 0 ≤ a ∧ a < (l.length : Int) then l.getD a.toNat 0 else 0 := by
 have key : ∀ (l : List Rat) (s : Nat) (a : Int), pget (l.mapIdx fun i q => (((s + i : Nat) : Int), q)) a = if (s : Int) ≤ a ∧ a < ((s + l.length : Nat) : Int) then l.getD (a.toNat - s) 0 else 0 := by
  intro l
  induction l with
  | nil => intro s a; rw [List.mapIdx_nil, pget_nil, if_neg (by rw [List.length_nil]; omega)]
  | cons q l ih =>
   intro s a
   rw [List.mapIdx_cons, pget_cons]
   have e : (l.mapIdx fun i q => (((s + (i + 1) : Nat) : Int), q)) = l.mapIdx fun i q => (((s + 1 + i : Nat) : Int), q) := by
    congr 1
    funext i q
    congr 1
    omega
   rw [e, ih, List.length_cons]
   simp only [Nat.add_zero]
   by_cases h : (s : Int) = a
   ·rw [if_pos h, if_neg (by omega), if_pos (by omega), Rat.add_zero, show a.toNat - s = 0 by omega]
    rfl
   ·rw [if_neg h]
    by_cases h2 : (s : Int) ≤ a ∧ a < ((s + (l.length + 1) : Nat) : Int)
    ·rw [if_pos (by omega), if_pos h2, show a.toNat - s = (a.toNat - (s + 1)) + 1 by omega, List.getD_cons_succ]
    ·rw [if_neg (by omega), if_neg h2]
 intro l a
 have h := key l 0 a
 simp only [Nat.zero_add, Nat.sub_zero] at h
 unfold idxP
 simpa using h
theorem idxP_map_get {α : Type} (C : List α) (f : α → Rat) (a : Int) (d : α) (_hd : f d = 0) : pget (idxP (C.map f)) a = if 0 ≤ a ∧ a < (C.length : Int) then f (C.getD a.toNat d) else 0 := by
 rw [idxP_get, List.length_map]
 split
 case isTrue h =>
  have hi : a.toNat < C.length := by omega
  rw [List.getD_eq_getElem?_getD, List.getElem?_map, List.getD_eq_getElem?_getD, List.getElem?_eq_getElem hi]
  rfl
 case isFalse => rfl
theorem times_dot (Y : List (Int × Rat)) (C : List (List (Int × Rat))) : ∀ X : List (Int × Rat), pdot Y (timesP C X) = pdot X (idxP (C.map fun c => pdot Y c))
 | [] => by show pdot Y [] = _; rw [pdot_nil_right, pdot_nil]
 | t :: X => by
  rw [timesP_cons, pdot_append_right, times_dot Y C X, pdot_cons]
  congr 1
  rw [idxP_map_get C (fun c => pdot Y c) t.1 [] (pdot_nil_right Y)]
  split
  ·rw [pdot_by, Rat.mul_comm]
  ·rw [pdot_nil_right, Rat.mul_zero]
theorem times_get (C : List (List (Int × Rat))) (X : List (Int × Rat)) (a : Int) : pget (timesP C X) a = pdot X (idxP (C.map fun c => pget c a)) := by
 rw [← pget_dot, times_dot]
 congr 2
 exact List.map_congr_left fun c _ => pget_dot c a
theorem both1 (Y X : List (Int × Rat)) (C : List (List (Int × Rat))) : pdot Y (nrm (timesP C (nrm X))) = pdot (nrm (idxP (C.map fun c => pdot Y c))) X := by
 rw [pdot_nrm_right, times_dot, pdot_nrm, pdot_nrm, pdot_comm]
theorem both2 (C : List (List (Int × Rat))) (X Z : List (Int × Rat)) (q : Rat) :
  nrm (timesP C (nrm (nrm (X ++ Z.map fun x => (x.1, q * x.2))))) = nrm (nrm (timesP C (nrm X)) ++ (nrm (timesP C (nrm Z))).map fun x => (x.1, q * x.2)) := nrm_ext fun a => by
 rw [times_get, pdot_nrm, pdot_nrm, pdot_append, pdot_scale, pget_append, nrm_get, pget_scale, nrm_get, times_get, times_get, pdot_nrm, pdot_nrm]
def trnE (C : List (List (Int × Rat))) : Nat → List (Int × Int × Rat)
 | 0 => []
 | k + 1 => trnE C k ++ (nrm (C.getD k [])).map fun x => ((k : Int), x.1, x.2)
def rowE (E : List (Int × Int × Rat)) (i : Int) : List (Int × Rat) := (E.filter fun e => decide (e.2.1 = i)).map fun e => (e.1, e.2.2)
def turnF (C : List (List (Int × Rat))) (i : Int) : List (Int × Rat) := rowE (trnE C C.length) i
theorem rowE_append (E F : List (Int × Int × Rat)) (i : Int) : rowE (E ++ F) i = rowE E i ++ rowE F i := by unfold rowE; rw [List.filter_append, List.map_append]
theorem rowE_one (e : Int × Int × Rat) (i : Int) : rowE [e] i = if e.2.1 = i then [(e.1, e.2.2)] else [] := by
 unfold rowE
 rw [List.filter_cons, List.filter_nil]
 by_cases h : e.2.1 = i
 ·rw [if_pos h, if_pos (by simpa using h)]; rfl
 ·rw [if_neg h, if_neg (by simpa using h)]; rfl
theorem rowE_col (k i : Int) : ∀ {L : List (Int × Rat)}, Nrm L → rowE (L.map fun x => (k, x.1, x.2)) i = if pget L i = 0 then [] else [(k, pget L i)]
 | [], _ => by rw [pget_nil, if_pos rfl]; rfl
 | x :: L, h => by
  have hr := Rise.cons.1 h.rise
  have e : rowE ((x :: L).map fun x => (k, x.1, x.2)) i = rowE [(k, x.1, x.2)] i ++ rowE (L.map fun x => (k, x.1, x.2)) i := by rw [← rowE_append]; rfl
  rw [e, rowE_one, rowE_col k i h.tail, pget_cons]
  by_cases hx : x.1 = i
  ·have h0 : pget L i = 0 := pget_none fun y hy => by have := hr.1 y hy; omega
   have hz := h.nz x List.mem_cons_self
   simp only
   rw [if_pos hx, if_pos h0, if_pos hx, h0, Rat.add_zero, if_neg hz]
   rfl
  ·simp only
   rw [if_neg hx, if_neg hx]
   rfl
theorem trn_step (C : List (List (Int × Rat))) (k : Nat) (i : Int) : rowE (trnE C (k + 1)) i = rowE (trnE C k) i ++ (if pget (C.getD k []) i = 0 then [] else [((k : Int), pget (C.getD k []) i)]) := by
 show rowE (trnE C k ++ _) i = _
 rw [rowE_append, rowE_col _ _ (nrm_nrm _), nrm_get]
theorem trn_low (C : List (List (Int × Rat))) (i : Int) : ∀ k, ∀ x ∈ rowE (trnE C k) i, 0 ≤ x.1 ∧ x.1 < (k : Int)
 | 0, x, h => by cases h
 | k + 1, x, h => by
  rw [trn_step] at h
  rcases List.mem_append.1 h with h | h
  ·have := trn_low C i k x h
   omega
  ·split at h
   ·cases h
   ·obtain rfl := List.mem_singleton.1 h
    simp only
    omega
theorem trn_nrm (C : List (List (Int × Rat))) (i : Int) : ∀ k, Nrm (rowE (trnE C k) i)
 | 0 => ⟨List.Pairwise.nil, fun x hx => by cases hx⟩
 | k + 1 => by
  rw [trn_step]
  split
  ·rw [List.append_nil]; exact trn_nrm C i k
  ·exact (trn_nrm C i k).snoc (fun o ho => (trn_low C i k o ho).2) (by assumption)
theorem trn_get (C : List (List (Int × Rat))) (i : Int) : ∀ (k : Nat) (a : Int), pget (rowE (trnE C k) i) a = if 0 ≤ a ∧ a < (k : Int) then pget (C.getD a.toNat []) i else 0
 | 0, a => by rw [if_neg (by omega)]; rfl
 | k + 1, a => by
  rw [trn_step, pget_append, trn_get C i k a]
  have e : pget (if pget (C.getD k []) i = 0 then [] else [((k : Int), pget (C.getD k []) i)]) a = if (k : Int) = a then pget (C.getD k []) i else 0 := by
   by_cases h : pget (C.getD k []) i = 0
   ·rw [if_pos h, pget_nil, h]; split <;> rfl
   ·rw [if_neg h, pget_one]
  rw [e]
  by_cases h : (k : Int) = a
  ·rw [if_neg (by omega), if_pos h, if_pos (by omega), Rat.zero_add, show a.toNat = k by omega]
  ·rw [if_neg h, Rat.add_zero]
   by_cases h2 : 0 ≤ a ∧ a < (k : Int)
   ·rw [if_pos h2, if_pos (by omega)]
   ·rw [if_neg h2, if_neg (by omega)]
theorem turn_low (C : List (List (Int × Rat))) (i : Int) : ∀ x ∈ turnF C i, 0 ≤ x.1 ∧ x.1 < (C.length : Int) := trn_low C i _
theorem turn_nrm (C : List (List (Int × Rat))) (i : Int) : Nrm (turnF C i) := trn_nrm C i _
theorem turn_get (C : List (List (Int × Rat))) (i a : Int) : pget (turnF C i) a = if 0 ≤ a ∧ a < (C.length : Int) then pget (C.getD a.toNat []) i else 0 := trn_get C i _ a
theorem turn_idx (C : List (List (Int × Rat))) (i a : Int) : pget (turnF C i) a = pget (idxP (C.map fun c => pget c i)) a := by
 rw [turn_get, idxP_map_get C (fun c => pget c i) a [] (pget_nil i)]
def turnT (C : List (List (Int × Rat))) (n : Nat) : List (List (Int × Rat)) := (List.range n).map fun (i : Nat) => turnF C (i : Int)
theorem turnT_len (C : List (List (Int × Rat))) (n : Nat) : (turnT C n).length = n := by unfold turnT; rw [List.length_map, List.length_range]
theorem turnT_get (C : List (List (Int × Rat))) {n i : Nat} (h : i < n) : (turnT C n).getD i [] = turnF C (i : Int) := by
 unfold turnT
 rw [List.getD_eq_getElem?_getD, List.getElem?_map, List.getElem?_range h]
 rfl
theorem turn_back {C : List (List (Int × Rat))} {n : Nat} (h : ∀ c ∈ C, Nrm c ∧ ∀ x ∈ c, 0 ≤ x.1 ∧ x.1 < (n : Int)) : turnT (turnT C n) C.length = C := by
 apply List.ext_getElem?
 intro k
 rcases Nat.lt_or_ge k C.length with hk | hk
 ·have hc := h _ (List.getElem_mem hk)
  rw [List.getElem?_eq_getElem hk]
  have e : (turnT (turnT C n) C.length)[k]? = some (turnF (turnT C n) (k : Int)) := by
   unfold turnT
   rw [List.getElem?_map, List.getElem?_range hk]
   rfl
  rw [e]
  congr 1
  refine (turn_nrm _ _).ext hc.1 fun a => ?_
  rw [turn_get, turnT_len]
  by_cases ha : 0 ≤ a ∧ a < (n : Int)
  ·rw [if_pos ha, turnT_get C (by omega), turn_get, if_pos (by omega), Int.toNat_natCast, List.getD_eq_getElem?_getD, List.getElem?_eq_getElem hk, Int.toNat_of_nonneg ha.1]
   rfl
  ·rw [if_neg ha]
   exact (pget_none fun x hx e => ha (by have := hc.2 x hx; omega)).symm
 ·rw [List.getElem?_eq_none (by rw [turnT_len]; exact hk), List.getElem?_eq_none hk]
theorem turn_times {C : List (List (Int × Rat))} {n : Nat} (h : ∀ c ∈ C, ∀ x ∈ c, 0 ≤ x.1 ∧ x.1 < (n : Int)) (X : List (Int × Rat)) :
  nrm (timesP C (nrm X)) = nrm (idxP ((turnT C n).map fun r => pdot X r)) := nrm_ext fun a => by
 rw [times_get, pdot_nrm, idxP_map_get (turnT C n) (fun r => pdot X r) a [] (pdot_nil_right X), turnT_len]
 by_cases ha : 0 ≤ a ∧ a < (n : Int)
 ·rw [if_pos ha, turnT_get C (by omega), Int.toNat_of_nonneg ha.1]
  exact pdot_congr (fun b => (turn_idx C a b).symm) X
 ·rw [if_neg ha]
  have e : ∀ b, pget (idxP (C.map fun c => pget c a)) b = pget [] b := fun b => by
   rw [idxP_map_get C (fun c => pget c a) b [] (pget_nil a), pget_nil]
   split
   case isTrue hb =>
    have hi : b.toNat < C.length := by omega
    rw [List.getD_eq_getElem?_getD, List.getElem?_eq_getElem hi]
    exact pget_none fun x hx e => ha (by have := h _ (List.getElem_mem hi) x hx; omega)
   case isFalse => rfl
  rw [pdot_congr e, pdot_nil_right]
theorem pdot_tot {Q : List (Int × Rat)} {K : Nat} (hQ : ∀ a, sz (pget Q a) ≤ K) : ∀ P : List (Int × Rat), sz (pdot P Q) ≤ 1 + wtot P + P.length * K
 | [] => Nat.le_trans sz_zero (by omega)
 | x :: P => by
  have h1 := pdot_tot hQ P
  have h2 := sz_add (sz_mul (Nat.le_refl (sz x.2)) (hQ x.1)) (Nat.le_refl (sz (pdot P Q)))
  rw [pdot_cons, List.length_cons, Nat.add_mul, Nat.one_mul]
  show _ ≤ 1 + (sz x.2 + 1 + wtot P) + _
  omega
end Go.Proofs.YtldcfmangolkoaaGreatDoor
namespace Go.Proofs.YtldcfmangolkoaaGreatDoor
open Go.RowKit Tw

def RowsE (V : List Vc) (E : List (Int × Int × Rat)) : Prop := ∀ (a : Nat) (v : Vc), V[a]? = some v → prs v.L = rowE E (a : Int)
def colE (k : Nat) (L : List (Int × Rat)) : List (Int × Int × Rat) := L.map fun x => ((k : Int), x.1, x.2)
theorem colE_snoc (k : Nat) {T : List Tm} {j : Nat} {x : Tm} (h : T[j]? = some x) : colE k (prs (T.take (j + 1))) = colE k (prs (T.take j)) ++ [((k : Int), x.at_, x.x.q)] := by
 rw [take_snoc h, prs_append]
 exact List.map_append
theorem RowsE.start (n : Nat) : RowsE (List.replicate n zVc) [] := fun a v hv => by rw [List.eq_of_mem_replicate (List.mem_of_getElem? hv)]; rfl
theorem RowsE.skip {V : List Vc} {E : List (Int × Int × Rat)} (h : RowsE V E) {k at_ : Int} {q : Rat} (ho : at_ < 0 ∨ (V.length : Int) ≤ at_) : RowsE V (E ++ [(k, at_, q)]) := fun a v hv => by
 have ha := (List.getElem?_eq_some_iff.1 hv).1
 rw [rowE_append, rowE_one, if_neg (by simp only; omega), List.append_nil]
 exact h a v hv
theorem RowsE.step {V : List Vc} {E : List (Int × Int × Rat)} (h : RowsE V E) {a : Nat} {u : Vc} (hu : V[a]? = some u) (H : Option Addr) (m c : Nat) (t : Tm) (k : Int) : RowsE (V.set a ⟨H, m, c, u.L ++ [⟨k, t.x⟩]⟩) (E ++ [(k, (a : Int), t.x.q)]) := fun b v hv => by
 have ha := (List.getElem?_eq_some_iff.1 hu).1
 rw [rowE_append, rowE_one]
 by_cases e : b = a
 ·subst e
  rw [List.getElem?_set_self ha, Option.some.injEq] at hv
  subst hv
  rw [if_pos rfl, prs_append, h b u hu]
  rfl
 ·rw [List.getElem?_set_ne (fun e2 => e e2.symm)] at hv
  rw [if_neg (by simp only; omega), List.append_nil]
  exact h b v hv
theorem RowsE.done {V : List Vc} {C : List (List (Int × Rat))} {n : Nat} (h : RowsE V (trnE C C.length)) (hl : V.length = n) : V.map (fun v => prs v.L) = turnT C n := by
 apply List.ext_getElem?
 intro a
 unfold turnT
 rw [List.getElem?_map, List.getElem?_map]
 by_cases ha : a < n
 ·rw [List.getElem?_range ha, List.getElem?_eq_getElem (by omega)]
  simp only [Option.map_some]
  rw [h a _ (List.getElem?_eq_getElem (by omega))]
  rfl
 ·rw [List.getElem?_eq_none (by omega), List.getElem?_eq_none (by rw [List.length_range]; omega)]
  rfl
theorem trnE_col {C : List (List (Int × Rat))} {k : Nat} {c : List (Int × Rat)} (h : C[k]? = some c) : trnE C (k + 1) = trnE C k ++ colE k (nrm c) := by
 show trnE C k ++ _ = _
 rw [List.getD_eq_getElem?_getD, h]
 rfl
theorem trn_len (C : List (List (Int × Rat))) (i : Int) : ∀ k, (rowE (trnE C k) i).length ≤ k
 | 0 => Nat.le_refl _
 | k + 1 => by
  have := trn_len C i k
  rw [trn_step, List.length_append]
  split
  ·simp only [List.length_nil]; omega
  ·simp only [List.length_cons, List.length_nil]; omega
theorem RowsE.small {V : List Vc} {C : List (List (Int × Rat))} {k a : Nat} {L : List (Int × Rat)} {u : Vc} (h : RowsE V (trnE C k ++ colE k L)) (hu : V[a]? = some u) : u.L.length ≤ k + L.length := by
 have h1 := congrArg List.length (h a u hu)
 have h2 := trn_len C (a : Int) k
 have h3 : (rowE (colE k L) (a : Int)).length ≤ L.length := by
  unfold rowE colE
  rw [List.length_map]
  refine Nat.le_trans (List.length_filter_le _ _) ?_
  rw [List.length_map]
  exact Nat.le_refl _
 rw [prs_len, rowE_append, List.length_append] at h1
 omega
theorem OnT.one {w : World} {M : Nat} {s s' : Bool} {A A' : Option Addr} {c l c' l' : Nat} {q : Rat} (at_ : Int) (h : RN w s A c l s' A' c' l' q) (hs : sz q + 1 ≤ M) : OnT w [⟨at_, ⟨s, A, c, l, s', A', c', l', q, true⟩⟩] (fun _ => M) := fun t ht => by
 obtain rfl := List.mem_singleton.1 ht
 exact ⟨h, rfl, hs⟩
end Go.Proofs.YtldcfmangolkoaaGreatDoor
namespace Go.Proofs.YtldcfmangolkoaaGreatDoor
open Go.RowKit Tw

def TellsTu (w : World) (C : List (List (Int × Rat))) (m M : Nat) (e : Ending) (w' : World) : Prop :=
 ∃ (g : Nat) (V : List Vc), e = .returned (.tuple #[.slice (some ⟨g, 0, none⟩) m m, .int .i64 0]) ∧ Sl Vc.cs 1 w' (some ⟨g, 0, none⟩) m m V ∧ (∀ v ∈ V, CN w' v M) ∧ V.map (fun v => prs v.L) = turnT C m ∧ Below w.heap.size w w'
def TU1 (w : World) (g m M n : Nat) (C : List (List (Int × Rat))) (gk : Nat) (s : Value) (wr : World) : Prop :=
 ∃ (i : Nat) (V : List Vc), i ≤ n ∧ n - i = gk ∧ s = .int .i64 (i : Int) ∧ TS wr w.heap.size g m (.slice none 0 0) 0 [] V M ∧ RowsE V (trnE C i) ∧ Below w.heap.size w wr
def TU2 (w : World) (g m M nm : Nat) (X : Value) (T : List Tm) (E : List (Int × Int × Rat)) (i gk : Nat) (s : Value) (wr : World) : Prop :=
 ∃ (j : Nat) (V : List Vc), j ≤ nm ∧ nm - j = gk ∧ s = .int .i64 (j : Int) ∧ TS wr w.heap.size g m X nm (flat Tm.cs T) V M ∧ RowsE V (E ++ colE i (prs (T.take j))) ∧ OnT wr T (fun _ => M) ∧ Below w.heap.size w wr
set_option maxRecDepth 100000 in
set_option maxHeartbeats 8000000 in
theorem turnV_q {w : World} {A : Option Addr} {n c m M : Nat} {CL : List Vc} (h : Sl Vc.cs 1 w A n c CL) (hcl : Hid (∀ v ∈ CL, GV w v.A v.n v.c (prs v.L) M ∧ v.n ≤ 1000000)) (hM : M ≤ 18000) (hn : n ≤ 1000000) (hm : m ≤ 65536) (hT : Hid (Tab w)) :
  Calls Tryz.prog 36 #[.slice A n c, .int .i64 (m : Int)] w (TellsTu w (CL.map fun v => prs v.L) m M) := by
 have H := Lib.hid h
 have HLN := Lib.hid h.1
 have g1 : ¬ (m : Int) < 0 := by omega
 have g2 : ¬ 65536 < (m : Int) := by omega
 clear h
 go_enter Tryz.func36, Tryz.ntmps36
 go_wp2_with (at_make; refine And.left (b := True) ?_)
 refine ⟨?_, trivial⟩
 refine Elt.makeN elt_vcs zVc (fun i z h1 h2 => vc_zero h1 h2) rfl _ _ rfl .i64 .i64 m rfl rfl (by omega) w.heap.size (Nat.le_refl _) ?_
 intro g w1 ho1 b1
 have HTS := Lib.hid (TS.start (M := M) ho1)
 have HB1 := Lib.hid b1
 clear ho1 b1
 go_wp2_with fail
 go_loopg [21] n (fun gk s wr => TU1 w g m M n (CL.map fun v => prs v.L) gk s wr)
 case atStart => exact ⟨0, _, Nat.zero_le _, rfl, rfl, HTS.out, RowsE.start _, HB1.out⟩
 case round =>
  clear HTS HB1
  obtain ⟨i, V, hi, hgk, rfl, hts, hrw, hB⟩ := hrel
  have HGK := Lib.hid hgk
  have HRW := Lib.hid hrw
  have HTS := Lib.hid hts
  clear hgk hrw hts
  by_cases hlt : i < n
  ·obtain ⟨b, off, rfl, hel⟩ := H.out.at Vc.cs_len (by omega) (by omega)
   obtain ⟨v, hv⟩ : ∃ v, CL[i]? = some v := ⟨CL[i]'(by rw [HLN.out]; exact hlt), List.getElem?_eq_getElem _⟩
   have hnd : ElA w b (off + i) v.cs := by have := hel i v hv; rwa [Nat.mul_one] at this
   have hcv := hcl.out v (List.mem_of_getElem? hv)
   have HTC := Lib.hid (trnE_col (C := CL.map fun v => prs v.L) (k := i) (c := prs v.L) (by rw [List.getElem?_map, hv]; rfl))
   have hnq := normO_q (hcv.1.below hB) (by omega) hcv.2 (Lib.hid (hT.out.below hB))
   have HPL := Lib.hid hcv.1.len
   have hvn := hcv.2
   have p0 := (hnd.below hB).c0 (u := .slice v.A v.n v.c) rfl
   have i1 : (i : Int) < (n : Int) := by omega
   have i2 : (0 : Int) ≤ (i : Int) := by omega
   clear hel hv hcv hnd
   go_wp2_with fail
   with_reducible refine hnq.mono ?_
   rintro e w2 ⟨Am, nm, cm, T, rfl, ho2, on2, ep, b2⟩
   have HTS2 := Lib.hid (HTS.out.beside b2 hB.size ho2)
   have HN2 := Lib.hid on2
   have HEP := Lib.hid ep
   have HTL := Lib.hid (ho2.eltn elt_vec (by omega))
   have HB2 := Lib.hid (below_trans hB b2)
   have hnm : nm ≤ 1000000 := by
    have h1 := nrm_len (prs v.L)
    rw [← ep, prs_len, ho2.eltn elt_vec (by omega)] at h1
    have := HPL.out
    omega
   clear hnq ho2 on2 ep b2 p0 hB
   go_wp2_with fail
   go_loopg [29] nm (fun gk s wr => TU2 w g m M nm (.slice Am nm cm) T (trnE (CL.map fun v => prs v.L) i) i gk s wr)
   case atStart => exact ⟨0, V, Nat.zero_le _, rfl, rfl, HTS2.out, by rw [List.take_zero]; show RowsE V (trnE (CL.map fun v => prs v.L) i ++ []); rw [List.append_nil]; exact HRW.out, HN2.out, HB2.out⟩
   case round =>
    clear HTS HTS2 HN2 HB2 HRW
    obtain ⟨j, V, hj, hgj, rfl, hts, hrw, hon, hB⟩ := hrel
    have HGJ := Lib.hid hgj
    have HRW := Lib.hid hrw
    clear hgj hrw
    by_cases hlj : j < nm
    ·obtain ⟨eb, offe, rfl, hel⟩ := (hts.xo.sl' elt_vec HTL.out).at Tm.cs_len (by omega) (by omega)
     obtain ⟨x, hx⟩ : ∃ x, T[j]? = some x := ⟨T[j]'(by rw [HTL.out]; exact hlj), List.getElem?_eq_getElem _⟩
     have hnd := hel j x hx
     have HCS := Lib.hid (colE_snoc i hx)
     have HXN := Lib.hid (hon x (List.mem_of_getElem? hx))
     have HVL := Lib.hid hts.len
     have j1 : (j : Int) < (nm : Int) := by omega
     have j2 : (0 : Int) ≤ (j : Int) := by omega
     clear hel hx
     by_cases k1 : x.at_ < 0
     ·have HR2 : Hid (RowsE V (trnE (CL.map fun v => prs v.L) i ++ colE i (prs (T.take (j + 1))))) := Lib.hid (by rw [HCS.out, ← List.append_assoc]; exact HRW.out.skip (.inl k1))
      have g3 : ¬ 0 ≤ x.at_ := by omega
      have Bz := Below.refl wr.heap.size wr
      have p50_0 := (hnd.below Bz).c0 (u := .int .i64 x.at_) rfl
      have p50_1 := (hnd.below Bz).at 1 (.bool x.x.s) rfl
      have p50_2 := (hnd.below Bz).at 2 (.slice x.x.A x.x.l x.x.c) rfl
      have p50_3 := (hnd.below Bz).at 3 (.bool x.x.s') rfl
      have p50_4 := (hnd.below Bz).at 4 (.slice x.x.A' x.x.l' x.x.c') rfl
      go_upto_region 10 with (fail)
      obtain ⟨V11, hW, x0, hN⟩ := boxes1 wr #[.int .i64 x.at_, .bool x.x.s, .slice x.x.A x.x.l x.x.c, .bool x.x.s', .slice x.x.A' x.x.l' x.x.c'] 118
      rw [← hW]
      clear hW
      obtain ⟨v0, hb0⟩ : ∃ b, b = wr.heap.size := ⟨_, rfl⟩
      rw [← hb0] at x0 ⊢
      have ow_0 : w.heap.size ≤ v0 := by have := hB.size; have := Bz.size; omega
      replace hon := hon.below hN
      replace hts := hts.below hN
      replace hB := below_trans (below_trans hB Bz) hN
      have HX0 := Lib.hid x0
      clear x0 hN Bz hb0
      have Bz := Below.refl V11.heap.size V11
      clear p50_0 p50_1 p50_2 p50_3 p50_4
      have p0_0 := (HX0.out.below Bz).cell 0 (.int .i64 x.at_) rfl
      go_wp2_with fail
      go_roundg (nm - (j + 1))
      case measure => have := HGJ.out; omega
      case rel => exact ⟨j + 1, _, by omega, rfl, by go_num, TS.below hts (by go_grown), HR2.out, OnT.below hon (by go_grown), below_trans (below_trans hB Bz) (by go_grown)⟩
     ·by_cases k2 : (m : Int) ≤ x.at_
      ·have HR2 : Hid (RowsE V (trnE (CL.map fun v => prs v.L) i ++ colE i (prs (T.take (j + 1))))) := Lib.hid (by rw [HCS.out, ← List.append_assoc]; exact HRW.out.skip (.inr (by rw [HVL.out]; exact k2)))
       have g3 : 0 ≤ x.at_ := by omega
       have g4 : ¬ x.at_ < (m : Int) := by omega
       have Bz := Below.refl wr.heap.size wr
       have p50_0 := (hnd.below Bz).c0 (u := .int .i64 x.at_) rfl
       have p50_1 := (hnd.below Bz).at 1 (.bool x.x.s) rfl
       have p50_2 := (hnd.below Bz).at 2 (.slice x.x.A x.x.l x.x.c) rfl
       have p50_3 := (hnd.below Bz).at 3 (.bool x.x.s') rfl
       have p50_4 := (hnd.below Bz).at 4 (.slice x.x.A' x.x.l' x.x.c') rfl
       go_upto_region 10 with (fail)
       obtain ⟨V11, hW, x0, hN⟩ := boxes1 wr #[.int .i64 x.at_, .bool x.x.s, .slice x.x.A x.x.l x.x.c, .bool x.x.s', .slice x.x.A' x.x.l' x.x.c'] 118
       rw [← hW]
       clear hW
       obtain ⟨v0, hb0⟩ : ∃ b, b = wr.heap.size := ⟨_, rfl⟩
       rw [← hb0] at x0 ⊢
       have ow_0 : w.heap.size ≤ v0 := by have := hB.size; have := Bz.size; omega
       replace hon := hon.below hN
       replace hts := hts.below hN
       replace hB := below_trans (below_trans hB Bz) hN
       have HX0 := Lib.hid x0
       clear x0 hN Bz hb0
       have Bz := Below.refl V11.heap.size V11
       clear p50_0 p50_1 p50_2 p50_3 p50_4
       have p0_0 := (HX0.out.below Bz).cell 0 (.int .i64 x.at_) rfl
       go_wp2_with fail
       go_roundg (nm - (j + 1))
       case measure => have := HGJ.out; omega
       case rel => exact ⟨j + 1, _, by omega, rfl, by go_num, TS.below hts (by go_grown), HR2.out, OnT.below hon (by go_grown), below_trans (below_trans hB Bz) (by go_grown)⟩
      ·have g3 : 0 ≤ x.at_ := by omega
       have g4 : x.at_ < (m : Int) := by omega
       obtain ⟨u, hu⟩ : ∃ u, V[x.at_.toNat]? = some u := ⟨V[x.at_.toNat]'(by rw [HVL.out]; omega), List.getElem?_eq_getElem _⟩
       have HVU := Lib.hid hu
       have hou : OwnR wr w.heap.size 118 5 (.slice u.A u.n u.c) u.n (flat Tm.cs u.L) := (hts.row u (List.mem_of_getElem? hu)).1
       have hout := hts.out
       have apGU : Ap (.slice (some ⟨g, 0, none⟩) m m) (.slice u.A u.n u.c) := (hts.og u (List.mem_of_getElem? hu)).1
       have apUG := apGU.symm
       have hun : u.n ≤ i + nm := by
        have h1 := HRW.out.small hu
        rw [hou.eltn elt_vec (by omega), prs_len, List.length_take] at h1
        omega
       have hrx := HXN.out.1
       have HSX := Lib.hid HXN.out.2.2
       have HR2 : Hid (∀ (H : Option Addr) (k c : Nat), RowsE (V.set x.at_.toNat ⟨H, k, c, u.L ++ [⟨(i : Int), ⟨x.x.s, x.x.A, x.x.c, x.x.l, x.x.s', x.x.A', x.x.c', x.x.l', x.x.q, true⟩⟩]⟩) (trnE (CL.map fun v => prs v.L) i ++ colE i (prs (T.take (j + 1))))) := Lib.hid (fun H k c => by
        have h9 := HRW.out.step hu H k c ⟨0, ⟨x.x.s, x.x.A, x.x.c, x.x.l, x.x.s', x.x.A', x.x.c', x.x.l', x.x.q, true⟩⟩ (i : Int)
        rw [HCS.out, ← List.append_assoc]
        rw [Int.toNat_of_nonneg g3] at h9
        exact h9)
       clear hu
       have Bz := Below.refl wr.heap.size wr
       have p50_0 := (hnd.below Bz).c0 (u := .int .i64 x.at_) rfl
       have p50_1 := (hnd.below Bz).at 1 (.bool x.x.s) rfl
       have p50_2 := (hnd.below Bz).at 2 (.slice x.x.A x.x.l x.x.c) rfl
       have p50_3 := (hnd.below Bz).at 3 (.bool x.x.s') rfl
       have p50_4 := (hnd.below Bz).at 4 (.slice x.x.A' x.x.l' x.x.c') rfl
       go_upto_region 10 with (fail)
       obtain ⟨V11, hW, x0, hN⟩ := boxes1 wr #[.int .i64 x.at_, .bool x.x.s, .slice x.x.A x.x.l x.x.c, .bool x.x.s', .slice x.x.A' x.x.l' x.x.c'] 118
       rw [← hW]
       clear hW
       obtain ⟨v0, hb0⟩ : ∃ b, b = wr.heap.size := ⟨_, rfl⟩
       rw [← hb0] at x0 ⊢
       have ow_0 : w.heap.size ≤ v0 := by have := hB.size; have := Bz.size; omega
       have nv0_own := OwnR.off' (b := v0) hou (by omega)
       have nv0_out := OwnR.off' (b := v0) hout (by omega)
       replace hon := hon.below hN
       replace hout := hout.below hN
       replace hou := hou.below hN
       replace hrx := hrx.below hN
       replace hts := hts.below hN
       replace hB := below_trans (below_trans hB Bz) hN
       have HX0 := Lib.hid x0
       clear x0 hN Bz hb0
       have Bz := Below.refl V11.heap.size V11
       clear p50_0 p50_1 p50_2 p50_3 p50_4
       have p0_0 := (HX0.out.below Bz).cell 0 (.int .i64 x.at_) rfl
       have p0_1 := (HX0.out.below Bz).cell 1 (.bool x.x.s) rfl
       have p0_2 := (HX0.out.below Bz).cell 2 (.slice x.x.A x.x.l x.x.c) rfl
       have p0_3 := (HX0.out.below Bz).cell 3 (.bool x.x.s') rfl
       have p0_4 := (HX0.out.below Bz).cell 4 (.slice x.x.A' x.x.l' x.x.c') rfl
       have p51_0 := vc_cell hout HVU.out
       have f51_0 := hout.frozen x.at_.toNat
       have y51 := hout.blk.1
       go_wp2_with fail
       (try simp only [List.append_eq, List.cons_append, List.nil_append])
       refine wp_region_plan (.pure 0 (.pure 1 (.take 2 (.pure 3 (.pure 4 (.take 5 (.pure 6 (.take 7 (.pure 8 (.pure 9 (.take 10 (.pure 11 (.only 12 (.only 13 (.pure 14 (.only 15 .done)))))))))))))))) [15] (fun w' => w'.cell? ⟨v0, 0, none⟩ = some (.int .i64 x.at_) ∧ w'.cell? ⟨v0, 1, none⟩ = some (.bool x.x.s) ∧ w'.cell? ⟨v0, 2, none⟩ = some (.slice x.x.A x.x.l x.x.c) ∧ w'.cell? ⟨v0, 3, none⟩ = some (.bool x.x.s') ∧ w'.cell? ⟨v0, 4, none⟩ = some (.slice x.x.A' x.x.l' x.x.c') ∧ w'.cell? ⟨g, x.at_.toNat, none⟩ = some (.slice u.A u.n u.c)) (by kernel_rfl) (by kernel_rfl) ⟨p0_0, p0_1, p0_2, p0_3, p0_4, p51_0⟩ ?_
       refine wpPlan_pure (o := ⟨some 42, _, _, _, _, _⟩) rfl rfl (fun w' => by go_simp <;> with_reducible rfl) ?_
       try simp only [pUt, pLt, pZt, pSt]
       refine wpPlan_pure (o := ⟨some 43, _, _, _, _, _⟩) rfl rfl (fun w' => by go_simp <;> with_reducible rfl) ?_
       try simp only [pUt, pLt, pZt, pSt]
       refine wpPlan_take (o := ⟨some 44, _, _, _, _, _⟩) rfl rfl (fun w' ⟨p0_0, p0_1, p0_2, p0_3, p0_4, p51_0⟩ => by go_simp <;> with_reducible rfl) ?_
       try simp only [pUt, pLt, pZt, pSt]
       refine wpPlan_pure (o := ⟨some 45, _, _, _, _, _⟩) rfl rfl (fun w' => by go_simp <;> with_reducible rfl) ?_
       try simp only [pUt, pLt, pZt, pSt]
       refine wpPlan_pure (o := ⟨some 46, _, _, _, _, _⟩) rfl rfl (fun w' => by go_simp <;> with_reducible rfl) ?_
       try simp only [pUt, pLt, pZt, pSt]
       refine wpPlan_take (o := ⟨some 47, _, _, _, _, _⟩) rfl rfl (fun w' ⟨p0_0, p0_1, p0_2, p0_3, p0_4, p51_0⟩ => by go_simp <;> with_reducible rfl) ?_
       try simp only [pUt, pLt, pZt, pSt]
       refine wpPlan_pure (o := ⟨some 48, _, _, _, _, _⟩) rfl rfl (fun w' => by go_simp <;> with_reducible rfl) ?_
       try simp only [pUt, pLt, pZt, pSt]
       refine wpPlan_take (o := ⟨some 49, _, _, _, _, _⟩) rfl rfl (fun w' ⟨p0_0, p0_1, p0_2, p0_3, p0_4, p51_0⟩ => by go_simp <;> with_reducible rfl) ?_
       try simp only [pUt, pLt, pZt, pSt]
       refine wpPlan_pure (o := ⟨some 50, _, _, _, _, _⟩) rfl rfl (fun w' => by go_simp <;> with_reducible rfl) ?_
       try simp only [pUt, pLt, pZt, pSt]
       refine wpPlan_pure (o := ⟨some 51, _, _, _, _, _⟩) rfl rfl (fun w' => by go_simp <;> with_reducible rfl) ?_
       try simp only [pUt, pLt, pZt, pSt]
       refine wpPlan_take (o := ⟨some 52, _, _, _, _, _⟩) rfl rfl (fun w' ⟨p0_0, p0_1, p0_2, p0_3, p0_4, p51_0⟩ => by go_simp <;> with_reducible rfl) ?_
       try simp only [pUt, pLt, pZt, pSt]
       refine wpPlan_pure (o := ⟨some 53, _, _, _, _, _⟩) rfl rfl (fun w' => by go_simp <;> with_reducible rfl) ?_
       try simp only [pUt, pLt, pZt, pSt]
       refine wpPlan_call (o := ⟨some 54, _, _, _, _, _⟩) rfl rfl (fun K hK => ?_)
       go_simp
       refine hK.out _ _ ⟨(cell_al p0_0), (cell_al p0_1), (cell_al p0_2), (cell_al p0_3), (cell_al p0_4), (cell_al p51_0)⟩ (fun _ => ?_)
       try simp only [pUt, pLt, pZt, pSt]
       clear hK K
       refine wpPlan_call (o := ⟨some 55, _, _, _, _, _⟩) rfl rfl (fun K hK => ?_)
       obtain ⟨V12, hW, x1, hN⟩ := boxes1 V11 #[.int .i64 (i : Int), .bool x.x.s, .slice x.x.A x.x.l x.x.c, .bool x.x.s', .slice x.x.A' x.x.l' x.x.c'] 118
       rw [← hW]
       clear hW
       obtain ⟨v1, hb1⟩ : ∃ b, b = V11.heap.size := ⟨_, rfl⟩
       rw [← hb1] at x1 ⊢
       have o0_1 : v0 < v1 := by have := (HX0.out.below Bz).lt; omega
       have ow_1 : w.heap.size ≤ v1 := by have := hB.size; have := Bz.size; omega
       have nv1_own := OwnR.off' (b := v1) hou (by omega)
       have nv1_out := OwnR.off' (b := v1) hout (by omega)
       replace hon := hon.below hN
       replace hout := hout.below hN
       replace hou := hou.below hN
       replace hrx := hrx.below hN
       replace hts := hts.below hN
       replace hB := below_trans (below_trans hB Bz) hN
       replace HX0 := Lib.hid ((HX0.out.below Bz).below hN)
       have HX1 := Lib.hid x1
       clear x1 hN Bz hb1
       have Bz := Below.refl V12.heap.size V12
       clear p0_0 p0_1 p0_2 p0_3 p0_4 p51_0 f51_0 y51
       have HTS1 := Lib.hid (TS.below hts (below_trans Bz (by go_grown)))
       have hdr : V12.drew.heap.size = V12.heap.size := rfl
       have hdr2 : V12.drew.drew.heap.size = V12.heap.size := rfl
       refine Elt.wp elt_vec _ _ rfl (w.heap.size) (.slice u.A u.n u.c) (u.n) (u.L) rfl hou (.slice (some ⟨v1, 0, none⟩) 1 1) (1) ([⟨(i : Int), ⟨x.x.s, x.x.A, x.x.c, x.x.l, x.x.s', x.x.A', x.x.c', x.x.l', x.x.q, true⟩⟩]) rfl (From.one (HX1.out.below (below_trans Bz (by go_grown))) (⟨(i : Int), ⟨x.x.s, x.x.A, x.x.c, x.x.l, x.x.s', x.x.A', x.x.c', x.x.l', x.x.q, true⟩⟩) rfl (elt_vec.len _)) (by omega) (by have := hB.size; have := Bz.size; omega) ?_
       intro H11 c11 w11 ho11 hg11
       replace hB := (below_trans (below_trans hB Bz) (by go_grown)).trans (hg11.below (by have := hB.size; have := Bz.size; omega) (fun g hg => by have := hou.base g hg; omega))
       replace HX0 := Lib.hid (hg11.bx (HX0.out.below (below_trans Bz (by go_grown))) nv0_own)
       clear HX1
       have apGU' := hg11.ap hout apGU
       have apUG' := apGU'.symm
       replace hout := (OwnR.below hout (by go_grown)).grown hg11 apGU
       clear apGU apUG
       have apGU := apGU'
       have apUG := apUG'
       clear apGU' apUG'
       clear hdr hdr2
       replace hon := hon.k hg11.k
       replace hrx := hrx.k hg11.k
       clear Bz
       have Bz := Below.refl w11.heap.size w11
       have p0_0 := (HX0.out.below Bz).cell 0 (.int .i64 x.at_) rfl
       have p0_1 := (HX0.out.below Bz).cell 1 (.bool x.x.s) rfl
       have p0_2 := (HX0.out.below Bz).cell 2 (.slice x.x.A x.x.l x.x.c) rfl
       have p0_3 := (HX0.out.below Bz).cell 3 (.bool x.x.s') rfl
       have p0_4 := (HX0.out.below Bz).cell 4 (.slice x.x.A' x.x.l' x.x.c') rfl
       have p51_0 := vc_cell hout HVU.out
       have f51_0 := hout.frozen x.at_.toNat
       have y51 := hout.blk.1
       refine hK.out _ _ ⟨p0_0, p0_1, p0_2, p0_3, p0_4, p51_0⟩ (fun _ => ?_)
       try simp only [pUt, pLt, pZt, pSt]
       clear hK K
       refine wpPlan_pure (o := ⟨some 56, _, _, _, _, _⟩) rfl rfl (fun w' => by go_simp <;> with_reducible rfl) ?_
       try simp only [pUt, pLt, pZt, pSt]
       refine wpPlan_late (o := ⟨none, _, _, _, _, _⟩) rfl rfl (by decide) (fun K hK => ?_)
       go_simp
       refine hK.out _ _ ?_
       try simp only [Act.put, List.setIfInBounds_toArray, List.set_cons_zero, List.set_cons_succ]
       clear hK K
       obtain ⟨V13, hV, hts2, hg2⟩ := (TS.below HTS1.out (by go_grown)).step HVU.out ho11 hg11 (OnT.one (i : Int) (RN.below hrx (by go_grown)) HSX.out)
       rw [← hV]
       clear hV
       replace hB := (below_trans hB Bz).trans (hg2.below (by have := hB.size; have := Bz.size; omega) (fun g' hg' => (TS.out hts2).base g' hg'))
       replace hon := hon.k hg2.k
       clear hg2 hg11 Bz hout
       have Bz := Below.refl V13.heap.size V13
       clear HX0
       clear p0_0 p0_1 p0_2 p0_3 p0_4 p51_0 f51_0 y51
       refine wpPlan_done ?_
       go_wp2_with fail
       go_roundg (nm - (j + 1))
       case measure => have := HGJ.out; omega
       case rel => exact ⟨j + 1, _, by omega, rfl, by go_num, TS.below hts2 (by go_grown), HR2.out _ _ _, OnT.below hon (by go_grown), below_trans (below_trans hB Bz) (by go_grown)⟩
    ·obtain rfl : j = nm := by omega
     have j1 : ¬ (j : Int) < (j : Int) := by omega
     have HRE : Hid (RowsE V (trnE (CL.map fun v => prs v.L) (i + 1))) := Lib.hid (by
      rw [HTC.out, ← HEP.out]
      have h9 := HRW.out
      rwa [List.take_of_length_le (by rw [HTL.out]; exact Nat.le_refl _)] at h9)
     have HTA := Lib.hid hts.alone
     clear hts hon
     go_wp2_with fail
     go_roundg (n - (i + 1))
     case measure => have := HGK.out; omega
     case rel => exact ⟨i + 1, V, by omega, rfl, by go_num, HTA.out.below (by go_grown), HRE.out, below_trans hB (by go_grown)⟩
  ·obtain rfl : i = n := by omega
   have i1 : ¬ (i : Int) < (i : Int) := by omega
   have hcn := HTS.out.cn
   have HC1 := Lib.hid hcn.1
   have HC2 := Lib.hid hcn.2
   have HDN := Lib.hid (RowsE.done (C := CL.map fun v => prs v.L) (by rw [List.length_map, HLN.out]; exact HRW.out) HTS.out.len)
   clear hcn
   go_wp2_with fail
   go_ret2
   exact ⟨g, V, rfl, HC1.out, HC2.out, HDN.out, hB⟩
end Go.Proofs.YtldcfmangolkoaaGreatDoor
namespace Go.Proofs.YtldcfmangolkoaaGreatDoor
open Go.RowKit Tw

theorem elt_frs : Elt Fr.cs 4 25 57 := Elt.of (.agg #[.bool false, .slice none 0 0, .bool false, .slice none 0 0]) 64 Tryz.underlying25 (by kernel_rfl) (by omega) (by kernel_rfl) (nou_list (by kernel_rfl)) Fr.cs_len
 (fun x u hu => by simp [Fr.cs] at hu; rcases hu with rfl | rfl | rfl | rfl <;> rfl) (fun x u hu n => by simp [Fr.cs] at hu; rcases hu with rfl | rfl | rfl | rfl <;> simp)
theorem fr_zero {i : TypeInfo} {z : Value} (h : Tryz.prog.info? 57 = some i) (hz : i.zero = some z) : z.cells.toList = Fr.cs zFr := by
 have h1 : (Tryz.prog.info? 57).map (fun i => i.zero) = some (some (.agg #[.bool false, .slice none 0 0, .bool false, .slice none 0 0])) := by kernel_rfl
 rw [h, Option.map_some, hz] at h1
 obtain rfl : z = .agg #[.bool false, .slice none 0 0, .bool false, .slice none 0 0] := by simpa using h1
 rfl
theorem fr_store {w : World} {B g n cap i : Nat} {L : List Fr} (h : OwnR w B 57 4 (.slice (some ⟨g, 0, none⟩) n cap) n (flat Fr.cs L)) {y : Fr} (hy : L[i]? = some y) (x : Fr) :
  ∃ V, V = (((w.setCell ⟨g, i * 4, none⟩ (.bool x.s)).setCell ⟨g, i * 4 + 1, none⟩ (.slice x.A x.l x.c)).setCell ⟨g, i * 4 + 2, none⟩ (.bool x.s')).setCell ⟨g, i * 4 + 3, none⟩ (.slice x.A' x.l' x.c') ∧
   OwnR V B 57 4 (.slice (some ⟨g, 0, none⟩) n cap) n (flat Fr.cs (L.set i x)) ∧ Grew w V (.slice (some ⟨g, 0, none⟩) n cap) (.slice (some ⟨g, 0, none⟩) n cap) := by
 have := elt_frs.sets h hy (y := x) [(0, .bool x.s), (1, .slice x.A x.l x.c), (2, .bool x.s'), (3, .slice x.A' x.l' x.c')] (fun p hp => by simp at hp; rcases hp with rfl | rfl | rfl | rfl <;> exact ⟨by simp, by simp⟩) rfl
 exact ⟨_, rfl, this⟩
theorem fr_0 {w : World} {B g n cap i : Nat} {L : List Fr} (h : OwnR w B 57 4 (.slice (some ⟨g, 0, none⟩) n cap) n (flat Fr.cs L)) {y : Fr} (hy : L[i]? = some y) : w.cell? ⟨g, i * 4, none⟩ = some (.bool y.s) :=
 elt_frs.cell h hy (j := 0) (u := .bool y.s) (by omega) rfl
def AllFr (w : World) (K : Nat) (L : List Fr) : Prop := ∀ x ∈ L, FrOk w K x
theorem AllFr.below {w w' : World} {K : Nat} {L : List Fr} (h : AllFr w K L) (hb : Below w.heap.size w w') : AllFr w' K L := fun x hx => (h x hx).below hb
theorem AllFr.k {w w' : World} {K : Nat} {L : List Fr} (h : AllFr w K L) (hb : K64 w w') : AllFr w' K L := fun x hx => (h x hx).k hb
theorem AllFr.set {w : World} {K : Nat} {L : List Fr} (h : AllFr w K L) (i : Nat) {x : Fr} (hx : FrOk w K x) : AllFr w K (L.set i x) := fun y hy => by
 rcases List.mem_or_eq_of_mem_set hy with hy | rfl
 ·exact h y hy
 ·exact hx
theorem dotG {w : World} {X Y : Option Addr} {n cx m cy M M' K : Nat} {P Q : List (Int × Rat)} (h : GV w X n cx P M) (h' : GV w Y m cy Q M') (hM0 : n * (M + M' + 3) ≤ 15000) (hM : M ≤ 15000) (hM' : M' ≤ 15000) (hn : n ≤ 1000000) (hm : m ≤ 1000000) (hs : sz (pdot P Q) ≤ K) (hT : Hid (Tab w)) :
  Calls Tryz.prog 62 #[.slice X n cx, .slice Y m cy] w (TellsNum w (pdot P Q) K) := (dotV_q h h' hM0 hM hM' hn hm hT).mono fun _ _ k => k.num hs
def LF1 (w W : World) (g n K : Nat) (P : List (Int × Rat)) (CL : List Vc) (gk : Nat) (s : Value) (wr : World) : Prop := ∃ (i : Nat) (D : List Fr), i ≤ n ∧ n - i = gk ∧ s = .int .i64 (i : Int) ∧ OwnR wr W.heap.size 57 4 (.slice (some ⟨g, 0, none⟩) n n) n (flat Fr.cs D) ∧ AllFr wr K D ∧
 (D.take i).map (fun x => x.q) = (CL.take i).map (fun v => pdot P (prs v.L)) ∧ Below w.heap.size w wr ∧ Below W.heap.size W wr
set_option maxRecDepth 100000 in
set_option maxHeartbeats 4000000 in
theorem leftW {w : World} {X A : Option Addr} {nx cx n c : Nat} {P : List (Int × Rat)} {CL : List Vc} (M MC N K : Nat) (hx : GV w X nx cx P M) (hnx : nx ≤ N) (h : Sl Vc.cs 1 w A n c CL) (hcl : Hid (∀ v ∈ CL, GV w v.A v.n v.c (prs v.L) MC ∧ v.n ≤ 1000)) (hn : n ≤ 1000000)
  (hK : Hid (∀ v ∈ CL, sz (pdot (nrm P) (prs v.L)) ≤ K)) (hK0 : 1 ≤ K) (hK1 : N * (M + 1 + MC + 3) ≤ 15000) (hK2 : K ≤ 15000) (hM : M ≤ 14000) (hMC : MC ≤ 14000) (hN : N ≤ 1000) (hT : Hid (Tab w)) :
  Calls Tryz.prog 45 #[.slice X nx cx, .slice A n c] w (TellsV w (nrm (idxP (CL.map fun v => pdot P (prs v.L)))) (K + 2)) := by
 have H := Lib.hid h
 have HLN := Lib.hid h.1
 have hnq := normW M N hx hnx (by omega) hN hT
 clear h hx
 go_enter Tryz.func45, Tryz.ntmps45
 go_wp2_with fail
 with_reducible refine hnq.mono ?_
 rintro e w1 ⟨A1, n1, c1, rfl, h1, hn1, b1⟩
 have H1 := Lib.hid h1
 clear hnq h1
 go_wp2_with (at_make; refine And.left (b := True) ?_)
 refine ⟨?_, trivial⟩
 refine Elt.makeN elt_frs zFr (fun i z h1 h2 => fr_zero h1 h2) rfl _ _ rfl .i64 .i64 n rfl rfl (by omega) w1.heap.size (Nat.le_refl _) ?_
 intro g w2 ho2 b2
 have HO2 := Lib.hid ho2
 have HBW := Lib.hid b2
 have HB2 := Lib.hid (below_trans b1 b2)
 have hWs := b1.size
 clear ho2 b1 b2
 go_wp2_with fail
 go_loopg [15] n (fun gk s wr => LF1 w w1 g n K (nrm P) CL gk s wr)
 case atStart => exact ⟨0, _, Nat.zero_le _, rfl, rfl, HO2.out.below (by go_grown), fun x hx => by rw [List.eq_of_mem_replicate hx]; exact zFr_ok _ (by omega), by simp, below_trans HB2.out (by go_grown), below_trans HBW.out (by go_grown)⟩
 case round =>
  clear HO2 HBW HB2
  obtain ⟨i, D, hi, hgk, rfl, ho, hfr, hdq, hB, hBW⟩ := hrel
  have HGK := Lib.hid hgk
  have HDL := Lib.hid (ho.eltn elt_frs (by omega))
  clear hgk
  by_cases hlt : i < n
  ·obtain ⟨b, off, rfl, hel⟩ := H.out.at Vc.cs_len (by omega) (by omega)
   obtain ⟨v, hv⟩ : ∃ v, CL[i]? = some v := ⟨CL[i]'(by rw [HLN.out]; exact hlt), List.getElem?_eq_getElem _⟩
   have hnd : ElA w b (off + i) v.cs := by have := hel i v hv; rwa [Nat.mul_one] at this
   have hcv := hcl.out v (List.mem_of_getElem? hv)
   have HV := Lib.hid hcv.1
   have hvn := hcv.2
   have HKV := Lib.hid (hK.out v (List.mem_of_getElem? hv))
   have hm1 : n1 * (M + 1 + MC + 3) ≤ 15000 := Nat.le_trans (Nat.mul_le_mul_right _ hn1) hK1
   obtain ⟨y, hy⟩ : ∃ y, D[i]? = some y := ⟨D[i]'(by rw [HDL.out]; exact hlt), List.getElem?_eq_getElem _⟩
   have HY := Lib.hid hy
   have HDQ : Hid (∀ r : Fr, r.q = pdot (nrm P) (prs v.L) → ((D.set i r).take (i + 1)).map (fun x => x.q) = (CL.take (i + 1)).map (fun v => pdot (nrm P) (prs v.L))) := Lib.hid (fun r hr => by
    rw [take_snoc (x := r) (by rw [List.getElem?_set_self (by rw [HDL.out]; omega)]), List.take_set_of_le (Nat.le_refl i), take_snoc hv, List.map_append, List.map_append, hdq]
    simp [hr])
   have i1 : (i : Int) < (n : Int) := by omega
   have i2 : (0 : Int) ≤ (i : Int) := by omega
   clear hel hv hy hcv hdq
   have Bz := Below.refl wr.heap.size wr
   have p50_0 := (hnd.below (below_trans hB Bz)).c0 (u := .slice v.A v.n v.c) rfl
   go_wp2_with fail
   with_reducible refine (dotG (K := K) ((H1.out.below (below_trans hBW (below_trans (b := wr) Bz (by go_grown)))).gv (nrm_nrm _).rise) (HV.out.below (below_trans hB (below_trans (b := wr) Bz (by go_grown)))) hm1 (by omega) (by omega) (by omega) (by omega) HKV.out (Lib.hid (Tab.below hT.out (below_trans hB (below_trans (b := wr) Bz (by go_grown)))))).mono ?_
   rintro e w11 ⟨s11, A11, c11, l11, s11r, A11r, c11r, l11r, rfl, h11, z11, b11⟩
   replace b11 := below_trans (a := wr) (by go_grown) b11
   replace hfr := hfr.below b11
   replace ho := ho.below b11
   replace Bz := below_trans Bz b11
   clear b11
   clear p50_0
   have p51_0 := fr_0 ho HY.out
   have p51_1 := elt_frs.cell ho HY.out (j := 1) (u := .slice y.A y.l y.c) (by omega) rfl
   have p51_2 := elt_frs.cell ho HY.out (j := 2) (u := .bool y.s') (by omega) rfl
   have p51_3 := elt_frs.cell ho HY.out (j := 3) (u := .slice y.A' y.l' y.c') (by omega) rfl
   have f51_0 := ho.frozen (i * 4)
   have f51_1 := ho.frozen (i * 4 + 1)
   have f51_2 := ho.frozen (i * 4 + 2)
   have f51_3 := ho.frozen (i * 4 + 3)
   have y51 := ho.blk.1
   go_upto_region 7 with (fail)
   obtain ⟨V11, hV, ho2, hg2⟩ := fr_store ho HY.out ⟨s11, A11, c11, l11, s11r, A11r, c11r, l11r, pdot (nrm P) (prs v.L), true⟩
   rw [← hV]
   clear hV
   replace hB := (below_trans hB Bz).trans (hg2.below (by have := hB.size; have := Bz.size; omega) (fun g' hg' => by have := ho.base g' hg'; omega))
   replace hBW := (below_trans hBW Bz).trans (hg2.below (by have := hBW.size; have := Bz.size; omega) (fun g' hg' => ho.base g' hg'))
   replace hfr := hfr.k hg2.k
   replace h11 := h11.k hg2.k
   clear ho
   have ho := ho2
   clear ho2 hg2 Bz
   have Bz := Below.refl V11.heap.size V11
   clear p51_0 p51_1 p51_2 p51_3 f51_0 f51_1 f51_2 f51_3 y51
   go_wp2_with fail
   go_roundg (n - (i + 1))
   case measure => have := HGK.out; omega
   case rel => exact ⟨i + 1, _, by omega, rfl, by go_num, OwnR.below ho (by go_grown), (AllFr.below hfr (by go_grown)).set i ((RN.below h11 (by go_grown)).fr z11), HDQ.out _ rfl, below_trans (below_trans hB Bz) (by go_grown), below_trans (below_trans hBW Bz) (by go_grown)⟩
  ·obtain rfl : i = n := by omega
   have i1 : ¬ (i : Int) < (i : Int) := by omega
   have hoq := ofV_q (ho.sl' elt_frs HDL.out) (Lib.hid hfr) (by omega) hn (Lib.hid (hT.out.below hB))
   have HDE : Hid (D.map (fun x => x.q) = CL.map fun v => pdot P (prs v.L)) := Lib.hid (by
    rw [List.take_of_length_le (by rw [HDL.out]; exact Nat.le_refl _), List.take_of_length_le (by rw [HLN.out]; exact Nat.le_refl _)] at hdq
    rw [hdq]
    exact List.map_congr_left fun v _ => pdot_nrm _ _)
   rw [HDE.out] at hoq
   clear ho hfr hdq
   go_wp2_with fail
   with_reducible refine hoq.mono ?_
   rintro e w3 ⟨A3, n3, c3, rfl, h3, b3⟩
   have H3 := Lib.hid h3
   clear h3 hoq
   go_wp2_with fail
   go_ret
   exact ⟨A3, n3, c3, rfl, H3.out, below_trans hB b3⟩
end Go.Proofs.YtldcfmangolkoaaGreatDoor
