/-
  QueueTells: the two queues hold the same nodes; the one that is next is the same one. No program in sight.
-/
import Derived.Test.YtihdaemjabhhkaaGreatDoorQt4
import Derived.Test.YtihdaemjabhhkaaGreatDoorQo2
namespace Go.Proofs.YtihdaemjabhhkaaGreatDoor
open Go.RowKit Tw Hp

/-- Two nodes are the same, but for where they lie. -/
def SmK (x y : Itm) : Prop := x.q = y.q ∧ x.dep = y.dep ∧ x.num = y.num ∧ x.turn = y.turn ∧ x.fl = y.fl ∧ x.fl ≤ 1000
/-- The heap L and the list N hold the same nodes; the list in the order of turns, all below tn. -/
structure Mt (K : Itm → Itm → Prop) (L N : List Itm) (tn : Int) : Prop where
  l : ∀ x ∈ L, ∃ y ∈ N, SmK x y ∧ K x y
  r : ∀ y ∈ N, ∃ x ∈ L, SmK x y ∧ K x y
  len : L.length = N.length
  nd : (L.map (·.turn)).Nodup
  sorted : N.Pairwise fun a b => a.turn < b.turn
  lt : ∀ y ∈ N, y.turn < tn
theorem Mt.nil (K : Itm → Itm → Prop) : Mt K [] [] 0 := ⟨(fun _ h => (by cases h)), (fun _ h => (by cases h)), rfl, List.nodup_nil, List.Pairwise.nil, (fun _ h => (by cases h))⟩
theorem Mt.imp {K K' : Itm → Itm → Prop} {L N : List Itm} {tn : Int} (h : Mt K L N tn) (hk : ∀ x ∈ L, ∀ y ∈ N, K x y → K' x y) : Mt K' L N tn :=
  ⟨fun x hx => by obtain ⟨y, h1, h2, h3⟩ := h.l x hx; exact ⟨y, h1, h2, hk x hx y h1 h3⟩, fun y hy => by obtain ⟨x, h1, h2, h3⟩ := h.r y hy; exact ⟨x, h1, h2, hk x h1 y hy h3⟩, h.len, h.nd, h.sorted, h.lt⟩
theorem Mt.push {K : Itm → Itm → Prop} {L L' N : List Itm} {tn : Int} {x y : Itm} (h : Mt K L N tn) (hp : L'.Perm (L ++ [x])) (hs : SmK x y) (hk : K x y) (ht : x.turn = tn) : Mt K L' (N ++ [y]) (tn + 1) := by
  have hy : y.turn = tn := hs.2.2.2.1.symm.trans ht
  refine ⟨fun z hz => ?_, fun z hz => ?_, ?_, ?_, ?_, fun z hz => ?_⟩
  · rcases List.mem_append.1 (hp.mem_iff.1 hz) with h1 | h1
    · obtain ⟨u, h2, h3⟩ := h.l z h1; exact ⟨u, List.mem_append_left _ h2, h3⟩
    · obtain rfl : z = x := by simpa using h1
      exact ⟨y, by simp, hs, hk⟩
  · rcases List.mem_append.1 hz with h1 | h1
    · obtain ⟨u, h2, h3⟩ := h.r z h1; exact ⟨u, hp.mem_iff.2 (List.mem_append_left _ h2), h3⟩
    · obtain rfl : z = y := by simpa using h1
      exact ⟨x, hp.mem_iff.2 (by simp), hs, hk⟩
  · rw [hp.length_eq]; simp [h.len]
  · rw [(hp.map (·.turn)).nodup_iff, List.map_append, List.nodup_append]
    refine ⟨h.nd, by simp, fun a ha b hb => ?_⟩
    obtain rfl : b = x.turn := by simpa using hb
    obtain ⟨u, hu, rfl⟩ := List.mem_map.1 ha
    obtain ⟨v, hv, h3, _⟩ := h.l u hu
    have := h.lt v hv
    have := h3.2.2.2.1
    omega
  · rw [List.pairwise_append]
    refine ⟨h.sorted, by simp, fun a ha b hb => ?_⟩
    obtain rfl : b = y := by simpa using hb
    have := h.lt a ha
    omega
  · rcases List.mem_append.1 hz with h1 | h1
    · have := h.lt z h1; omega
    · obtain rfl : z = y := by simpa using h1
      omega
theorem SmK.lt {x y x' y' : Itm} (h : SmK x y) (h' : SmK x' y') : itLt x x' = itLt y y' := by unfold itLt; rw [h.1, h.2.1, h.2.2.1, h.2.2.2.1, h'.1, h'.2.1, h'.2.2.1, h'.2.2.2.1]
theorem ix_mem {N : List Itm} {a : Nat} (h : a < N.length) : ix N a ∈ N := by rw [ix_get h]; exact List.getElem_mem h
theorem mem_ix {N : List Itm} {y : Itm} (h : y ∈ N) : ∃ j, j < N.length ∧ ix N j = y := by
  obtain ⟨j, hj, e⟩ := List.mem_iff_getElem.1 h
  exact ⟨j, hj, by rw [ix_get hj]; exact e⟩
theorem Mt.turn_lt {K : Itm → Itm → Prop} {L N : List Itm} {tn : Int} (h : Mt K L N tn) {i j : Nat} (hij : i < j) (hj : j < N.length) : (ix N i).turn < (ix N j).turn := by
  rw [ix_get hj, ix_get (by omega)]
  exact List.pairwise_iff_getElem.1 h.sorted i j (by omega) hj hij
/-- The heap's least one is the list's first one. -/
theorem Mt.first {K : Itm → Itm → Prop} {L N : List Itm} {tn : Int} {x : Itm} {a : Nat} (h : Mt K L N tn) (hx : x ∈ L) (hm : ∀ y ∈ L, itLt y x = false) (ha : a < N.length) (hf : FirstOf N N.length a) : SmK x (ix N a) ∧ K x (ix N a) := by
  obtain ⟨y, hy, hs, hk⟩ := h.l x hx
  obtain ⟨j, hj, rfl⟩ := mem_ix hy
  obtain ⟨x0, hx0, hs0, _⟩ := h.r _ (ix_mem ha)
  have h1 := hm x0 hx0
  rw [hs0.lt hs] at h1
  have h2 := hf.1 j hj
  have e : j = a := by
    rw [aheadB_iff] at h2
    rw [Bool.eq_false_iff, Ne, itLt_iff] at h1
    have key : (ix N a).q = (ix N j).q ∧ (ix N a).dep = (ix N j).dep ∧ (ix N a).num = (ix N j).num ∧ ¬ (ix N a).turn < (ix N j).turn := by
      rcases h2 with h2 | ⟨h2, h3 | ⟨h3, h4⟩⟩
      · exact absurd (.inl h2) h1
      · exact absurd (.inr ⟨h2, .inl h3⟩) h1
      · refine ⟨h2, h3, ?_, fun h5 => ?_⟩
        · rcases Int.lt_or_eq_of_le h4 with h5 | h5
          · exact absurd (.inr ⟨h2, .inr ⟨h3, .inl h5⟩⟩) h1
          · exact h5
        · rcases Int.lt_or_eq_of_le h4 with h6 | h6
          · exact absurd (.inr ⟨h2, .inr ⟨h3, .inl h6⟩⟩) h1
          · exact absurd (.inr ⟨h2, .inr ⟨h3, .inr ⟨h6, h5⟩⟩⟩) h1
    rcases Nat.lt_trichotomy j a with e | e | e
    · have := hf.2 j e
      rw [Bool.eq_false_iff, Ne, aheadB_iff] at this
      exact absurd (.inr ⟨key.1.symm, .inr ⟨key.2.1.symm, by omega⟩⟩) this
    · exact e
    · have := h.turn_lt e hj
      exact absurd this key.2.2.2
  subst e
  exact ⟨hs, hk⟩
theorem Mt.pop {K : Itm → Itm → Prop} {L L' N : List Itm} {tn : Int} {x : Itm} {a : Nat} (h : Mt K L N tn) (hp : L.Perm (x :: L')) (hm : ∀ y ∈ L', itLt y x = false) (ha : a < N.length) (hf : FirstOf N N.length a) :
    (SmK x (ix N a) ∧ K x (ix N a)) ∧ Mt K L' (N.eraseIdx a) tn := by
  have hx : x ∈ L := hp.mem_iff.2 List.mem_cons_self
  have hxx : itLt x x = false := by rw [Bool.eq_false_iff, Ne, itLt_iff]; rintro (h | ⟨_, h | ⟨_, h | ⟨_, h⟩⟩⟩) <;> first | exact absurd h Rat.lt_irrefl | omega
  have hxa := h.first hx (fun y hy => by rcases List.mem_cons.1 (hp.mem_iff.1 hy) with rfl | h1
                                         · exact hxx
                                         · exact hm y h1) ha hf
  refine ⟨hxa, ?_⟩
  have nd' : ((x :: L').map (·.turn)).Nodup := ((hp.map (·.turn)).nodup_iff).1 h.nd
  have nd2 := List.nodup_cons.1 nd'
  have hne : ∀ z ∈ L', z.turn ≠ x.turn := fun z hz e => nd2.1 (List.mem_map.2 ⟨z, hz, e⟩)
  have er : ∀ j, j < N.length → j ≠ a → ix N j ∈ N.eraseIdx a := fun j hj hja => by
    rw [ix_get hj, List.mem_eraseIdx_iff_getElem]
    exact ⟨j, hj, hja, rfl⟩
  refine ⟨fun z hz => ?_, fun z hz => ?_, ?_, nd2.2, h.sorted.sublist (List.eraseIdx_sublist ..), fun z hz => h.lt z (List.mem_of_mem_eraseIdx hz)⟩
  · obtain ⟨y, hy, hs, hk⟩ := h.l z (hp.mem_iff.2 (List.mem_cons_of_mem _ hz))
    obtain ⟨j, hj, rfl⟩ := mem_ix hy
    refine ⟨_, er j hj ?_, hs, hk⟩
    rintro rfl
    exact hne z hz (hs.2.2.2.1.trans hxa.1.2.2.2.1.symm)
  · have hzN := List.mem_of_mem_eraseIdx hz
    obtain ⟨u, hu, hs, hk⟩ := h.r z hzN
    rcases List.mem_cons.1 (hp.mem_iff.1 hu) with rfl | h1
    · exfalso
      rw [List.mem_eraseIdx_iff_getElem] at hz
      obtain ⟨j, hj, hja, rfl⟩ := hz
      have e : (ix N a).turn = (ix N j).turn := by rw [ix_get hj]; exact hxa.1.2.2.2.1.symm.trans hs.2.2.2.1
      rcases Nat.lt_or_gt_of_ne hja with h2 | h2
      · have := h.turn_lt h2 ha; omega
      · have := h.turn_lt h2 hj; omega
    · exact ⟨u, h1, hs, hk⟩
  · have := hp.length_eq
    rw [List.length_eraseIdx, if_pos ha, ← h.len, this]
    simp
/-- What was decided reads the same. -/
def Kw (w : World) (x y : Itm) : Prop := ∃ ps, Fb w 0 x.F x.fl x.fc ps ∧ Fb w 0 y.F y.fl y.fc ps
/-- It lies in no block b. -/
def Off2 (b : Nat) (F : Option Addr) : Prop := ∀ ad, F = some ad → ad.block ≠ b
def Kx (w : World) (b : Nat) (x y : Itm) : Prop := Kw w x y ∧ Off2 b x.F ∧ Off2 b y.F
/-- Every slice of pairs that a call made stays. -/
def KeepF (w w' : World) : Prop := ∀ b cs, Bx w b cs 47 → Bx w' b cs 47
theorem KeepF.of_below {w w' : World} (h : Below w.heap.size w w') : KeepF w w' := fun _ _ hb => hb.below h
theorem KeepF.trans {a b c : World} (h : KeepF a b) (k : KeepF b c) : KeepF a c := fun x cs hb => k x cs (h x cs hb)
theorem KeepF.of_qk {w w' : World} {B : Nat} (h : QK w w' B) : KeepF w w' := fun b cs hb => h.far b cs _ (by decide) (by decide) hb
theorem KeepF.of_rk {w w' : World} {rb B : Nat} {v v' : Value} {N : List Itm} (h : RK w w' rb B v v') (hq : RQ w rb B v N) : KeepF w w' := fun b cs hb => h.far b cs _ (bx_ne (by decide) hb hq.at_) (Ne.symm (own_ne hq.own (by decide) hb)) hb
theorem Fb.kf {w w' : World} {base : Nat} {F : Option Addr} {fl fc : Nat} {ps : List Int} (h : Fb w base F fl fc ps) (k : KeepF w w') : Fb w' base F fl fc ps := h.keep fun g cur _ hx => k g cur hx
theorem Kw.kf {w w' : World} {x y : Itm} (h : Kw w x y) (k : KeepF w w') : Kw w' x y := by obtain ⟨ps, h1, h2⟩ := h; exact ⟨ps, h1.kf k, h2.kf k⟩
theorem Kx.kf {w w' : World} {b : Nat} {x y : Itm} (h : Kx w b x y) (k : KeepF w w') : Kx w' b x y := ⟨h.1.kf k, h.2⟩
theorem Fb.off {w : World} {base b : Nat} {F : Option Addr} {fl fc : Nat} {ps : List Int} (h : Fb w base F fl fc ps) (hb : w.heap.size ≤ b) : Off2 b F := fun ad ha => by
  obtain ⟨_, ⟨h2, _⟩ | ⟨g, cur, h2, _, h4, _⟩⟩ := h
  · rw [h2] at ha; cases ha
  · rw [h2] at ha; cases ha; have := h4.lt; show g ≠ b; omega
theorem Fb.off' {w : World} {base b : Nat} {F : Option Addr} {fl fc : Nat} {ps : List Int} (h : Fb w base F fl fc ps) (hb : b < base) : Off2 b F := fun ad ha => by
  obtain ⟨_, ⟨h2, _⟩ | ⟨g, cur, h2, h3, h4, _⟩⟩ := h
  · rw [h2] at ha; cases ha
  · rw [h2] at ha; cases ha; show g ≠ b; omega
theorem Kw.kx {w : World} {b : Nat} {x y : Itm} (h : Kw w x y) (hb : w.heap.size ≤ b) : Kx w b x y := by
  obtain ⟨ps, h1, h2⟩ := h
  exact ⟨⟨ps, h1, h2⟩, h1.off hb, h2.off hb⟩
/-- One block alone has been written. -/
theorem Kx.set {w w' : World} {b : Nat} {x y : Itm} (h : Kx w b x y) (hg : w.grownBy w' (some b)) : Kx w' b x y := by
  obtain ⟨⟨ps, h1, h2⟩, h3, h4⟩ := h
  refine ⟨⟨ps, h1.keep fun g cur he hx => ?_, h2.keep fun g cur he hx => ?_⟩, h3, h4⟩
  · exact (hg.block g hx.lt (by have := h3 _ he; simpa using this)).trans hx
  · exact (hg.block g hx.lt (by have := h4 _ he; simpa using this)).trans hx
end Go.Proofs.YtihdaemjabhhkaaGreatDoor
