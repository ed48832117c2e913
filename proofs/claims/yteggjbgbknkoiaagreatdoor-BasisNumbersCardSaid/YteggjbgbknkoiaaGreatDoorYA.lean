/-
  Small laws with default proofs.
-/
theorem aA:type_of% @Nat.le_refl:=@Nat.le_refl
theorem cA.{u}:type_of% @List.getElem?_eq_getElem.{u}:=@List.getElem?_eq_getElem.{u}
theorem dA.{u}:type_of% @List.getD_eq_getElem?_getD.{u}:=@List.getD_eq_getElem?_getD.{u}
theorem eA.{u}:type_of% @List.mem_of_getElem?.{u}:=@List.mem_of_getElem?.{u}
theorem fA:type_of% @decide_eq_false:=@decide_eq_false
theorem jA:type_of% @decide_eq_true:=@decide_eq_true
theorem nA.{u}:type_of% @List.take_of_length_le.{u}:=@List.take_of_length_le.{u}
theorem qA.{u}:type_of% @List.mem_cons_self.{u}:=@List.mem_cons_self.{u}
theorem tA:type_of% @Nat.mul_add:=@Nat.mul_add
theorem uA.{u}:type_of% @if_neg.{u}:=@if_neg.{u}
theorem wA:type_of% @Nat.le_trans:=@Nat.le_trans
theorem yA.{u}:type_of% @List.mem_cons_of_mem.{u}:=@List.mem_cons_of_mem.{u}
theorem zA.{u}:type_of% @if_pos.{u}:=@if_pos.{u}
theorem cB:type_of% @Nat.zero_le:=@Nat.zero_le
theorem dB:type_of% @Nat.lt_of_lt_of_le:=@Nat.lt_of_lt_of_le
theorem eB.{u}:type_of% @List.getElem?_eq_none.{u}:=@List.getElem?_eq_none.{u}
theorem jB:type_of% @Nat.mul_assoc:=@Nat.mul_assoc
theorem kB.{u}:type_of% @List.length_take.{u}:=@List.length_take.{u}
theorem mB:type_of% @Nat.mul_comm:=@Nat.mul_comm
theorem nB:type_of% @Nat.lt_or_ge:=@Nat.lt_or_ge
theorem qB.{u,v}:type_of% @List.getElem?_map.{u,v}:=@List.getElem?_map.{u,v}
theorem rB.{u}:type_of% @List.mem_cons.{u}:=@List.mem_cons.{u}
theorem wB:type_of% @Nat.mul_le_mul_right:=@Nat.mul_le_mul_right
theorem xB.{u,v}:type_of% @List.length_map.{u,v}:=@List.length_map.{u,v}
theorem yB.{u}:type_of% @List.getElem?_eq_some_iff.{u}:=@List.getElem?_eq_some_iff.{u}
theorem aC:type_of% @Nat.pow_succ:=@Nat.pow_succ
theorem bC.{u}:type_of% @List.length_set.{u}:=@List.length_set.{u}
theorem cC:type_of% @Nat.add_mul:=@Nat.add_mul
theorem dC:type_of% @Nat.div_lt_iff_lt_mul:=@Nat.div_lt_iff_lt_mul
theorem eC:type_of% @Nat.div_add_mod:=@Nat.div_add_mod
theorem fC:type_of% @Nat.mul_le_mul_left:=@Nat.mul_le_mul_left
theorem gC.{u}:type_of% @List.mem_singleton.{u}:=@List.mem_singleton.{u}
theorem jC.{u}:type_of% @List.length_append.{u}:=@List.length_append.{u}
theorem kC:type_of% @Nat.zero_add:=@Nat.zero_add
theorem mC:type_of% @Nat.mod_lt:=@Nat.mod_lt
theorem nC.{u}:type_of% @List.mem_append.{u}:=@List.mem_append.{u}
theorem qC.{u}:type_of% @List.mem_or_eq_of_mem_set.{u}:=@List.mem_or_eq_of_mem_set.{u}
theorem rC.{u,v}:type_of% @List.mem_map.{u,v}:=@List.mem_map.{u,v}
theorem sC:type_of% @Bool.and_eq_true:=@Bool.and_eq_true
theorem tC.{u}:type_of% @List.eq_nil_of_length_eq_zero.{u}:=@List.eq_nil_of_length_eq_zero.{u}
theorem uC:type_of% @Nat.min_eq_left:=@Nat.min_eq_left
theorem wC:type_of% @Rat.add_zero:=@Rat.add_zero
theorem xC:type_of% @Nat.eq_zero_or_pos:=@Nat.eq_zero_or_pos
theorem yC:type_of% @Nat.mod_eq_of_lt:=@Nat.mod_eq_of_lt
theorem aD.{u}:type_of% @List.drop_eq_nil_of_le.{u}:=@List.drop_eq_nil_of_le.{u}
theorem bD.{u}:type_of% @List.getElem?_set_self.{u}:=@List.getElem?_set_self.{u}
theorem cD:type_of% @Nat.pow_le_pow_right:=@Nat.pow_le_pow_right
theorem dD.{u}:type_of% @List.getElem?_set_ne.{u}:=@List.getElem?_set_ne.{u}
theorem eD.{u}:type_of% @List.length_cons.{u}:=@List.length_cons.{u}
theorem fD:type_of% @Nat.two_pow_pos:=@Nat.two_pow_pos
theorem gD:type_of% @Nat.mul_one:=@Nat.mul_one
theorem jD:type_of% @Nat.lt_of_le_of_lt:=@Nat.lt_of_le_of_lt
theorem kD:type_of% @Nat.add_zero:=@Nat.add_zero
theorem mD.{u}:type_of% @List.drop_eq_getElem_cons.{u}:=@List.drop_eq_getElem_cons.{u}
theorem nD:type_of% @Nat.pow_add:=@Nat.pow_add
theorem qD:type_of% @Nat.div_eq_of_lt:=@Nat.div_eq_of_lt
theorem rD.{u}:type_of% @List.getElem?_of_mem.{u}:=@List.getElem?_of_mem.{u}
theorem sD:type_of% @Nat.mul_left_comm:=@Nat.mul_left_comm
theorem tD.{u}:type_of% @List.length_replicate.{u}:=@List.length_replicate.{u}
theorem uD.{u}:type_of% @List.take_append_drop.{u}:=@List.take_append_drop.{u}
theorem vD.{u}:type_of% @List.eq_of_mem_replicate.{u}:=@List.eq_of_mem_replicate.{u}
theorem wD.{u,v}:type_of% @List.mem_map_of_mem.{u,v}:=@List.mem_map_of_mem.{u,v}
theorem xD.{u}:type_of% @List.getElem?_append_right.{u}:=@List.getElem?_append_right.{u}
theorem yD.{u}:type_of% @List.getElem?_take.{u}:=@List.getElem?_take.{u}
theorem zD:type_of% @Nat.add_sub_cancel:=@Nat.add_sub_cancel
theorem bE:type_of% @Rat.zero_add:=@Rat.zero_add
theorem cE.{u}:type_of% @List.all_eq_true.{u}:=@List.all_eq_true.{u}
theorem dE.{u}:type_of% @Array.getElem?_toList.{u}:=@Array.getElem?_toList.{u}
theorem fE:type_of% @Nat.one_mul:=@Nat.one_mul
theorem gE:type_of% @decide_eq_true_eq:=@decide_eq_true_eq
theorem jE:type_of% @Nat.add_assoc:=@Nat.add_assoc
theorem kE:type_of% @Rat.div_mul_cancel:=@Rat.div_mul_cancel
theorem mE:type_of% @Nat.add_mul_div_left:=@Nat.add_mul_div_left
theorem nE:type_of% @Nat.mul_zero:=@Nat.mul_zero
theorem pE.{u}:type_of% @Array.getElem?_eq_getElem.{u}:=@Array.getElem?_eq_getElem.{u}
theorem qE.{u}:type_of% @List.append_assoc.{u}:=@List.append_assoc.{u}
theorem rE:type_of% @Int.toNat_natCast:=@Int.toNat_natCast
theorem sE.{u}:type_of% @List.ext_getElem?.{u}:=@List.ext_getElem?.{u}
theorem tE:type_of% @Rat.mul_zero:=@Rat.mul_zero
theorem uE:type_of% @Rat.zero_mul:=@Rat.zero_mul
theorem vE.{u}:type_of% @Option.isSome_iff_exists.{u}:=@Option.isSome_iff_exists.{u}
theorem wE:type_of% @Nat.div_le_self:=@Nat.div_le_self
theorem xE.{u}:type_of% @List.getElem?_replicate.{u}:=@List.getElem?_replicate.{u}
theorem yE.{u}:type_of% @List.take_zero.{u}:=@List.take_zero.{u}
theorem aF:type_of% @Int.lt_trichotomy:=@Int.lt_trichotomy
theorem bF.{u}:type_of% @List.nil_append.{u}:=@List.nil_append.{u}
theorem cF.{u,v}:type_of% @Option.map_some.{u,v}:=@Option.map_some.{u,v}
theorem dF.{u}:type_of% @List.cons_append.{u}:=@List.cons_append.{u}
theorem eF:type_of% @Nat.mul_le_mul:=@Nat.mul_le_mul
theorem fF.{u,v}:type_of% @List.pairwise_map.{u,v}:=@List.pairwise_map.{u,v}
theorem gF.{u}:type_of% @List.nodup_cons.{u}:=@List.nodup_cons.{u}
theorem jF:type_of% @Nat.mod_add_div:=@Nat.mod_add_div
theorem kF:type_of% @List.getElem?_range:=@List.getElem?_range
theorem mF:type_of% @Int.sign_eq_one_of_pos:=@Int.sign_eq_one_of_pos
theorem nF:type_of% @Rat.add_assoc:=@Rat.add_assoc
theorem pF:type_of% @Int.sign_eq_neg_one_of_neg:=@Int.sign_eq_neg_one_of_neg
theorem qF.{u}:type_of% @Array.getElem?_eq_some_iff.{u}:=@Array.getElem?_eq_some_iff.{u}
theorem rF:type_of% @Int.natAbs_mul:=@Int.natAbs_mul
theorem sF:type_of% @Nat.add_mul_mod_self_left:=@Nat.add_mul_mod_self_left
theorem tF:type_of% @Nat.lt_of_mul_lt_mul_left:=@Nat.lt_of_mul_lt_mul_left
theorem uF.{u}:type_of% @List.getElem?_append_left.{u}:=@List.getElem?_append_left.{u}
theorem vF:type_of% @Int.sign_eq_zero_iff_zero:=@Int.sign_eq_zero_iff_zero
theorem wF.{u}:type_of% @List.pairwise_append.{u}:=@List.pairwise_append.{u}
theorem xF:type_of% @Nat.sub_self:=@Nat.sub_self
theorem yF.{u}:type_of% @List.mem_of_mem_take.{u}:=@List.mem_of_mem_take.{u}
theorem zF:type_of% @List.length_range:=@List.length_range
theorem aG.{u}:type_of% @List.replicate_succ.{u}:=@List.replicate_succ.{u}
theorem bG.{u}:type_of% @List.getD_cons_zero.{u}:=@List.getD_cons_zero.{u}
theorem cG:type_of% @Int.toNat_of_nonneg:=@Int.toNat_of_nonneg
theorem dG.{u}:type_of% @List.filter_cons.{u}:=@List.filter_cons.{u}
theorem eG:type_of% @Nat.min_eq_right:=@Nat.min_eq_right
theorem fG.{u}:type_of% @List.not_mem_nil.{u}:=@List.not_mem_nil.{u}
theorem gG:type_of% @Nat.zero_mul:=@Nat.zero_mul
theorem jG:type_of% @Nat.pos_of_ne_zero:=@Nat.pos_of_ne_zero
theorem kG.{u}:type_of% @List.append_nil.{u}:=@List.append_nil.{u}
theorem mG.{u,v}:type_of% @List.map_append.{u,v}:=@List.map_append.{u,v}
theorem nG.{u,v}:type_of% @List.map_cons.{u,v}:=@List.map_cons.{u,v}
theorem pG:type_of% @Int.mul_pos:=@Int.mul_pos
namespace Go.Proofs
theorem zo {p:Prop} (h:p:=by omega):p:=h
theorem zi {a p:Prop} (x:a) (h:a→p:=by intro;omega):p:=h x
theorem zj {a b p:Prop} (x:a) (y:b) (h:a→b→p:=by intros;omega):p:=h x y
theorem zd {p:Prop} (h:p:=by decide):p:=h
theorem vA {α:Type} {a b:List α}:a.append b=a++b:=rfl
theorem vBa {α:Type} {x:α} {a b:List α}:x::a++b=x::(a++b):=rfl
theorem vC {α:Type} {b:List α}:[]++b=b:=rfl
end Go.Proofs
namespace Te
theorem zo {p:Prop} (h:p:=by omega):p:=h
theorem zi {a p:Prop} (x:a) (h:a→p:=by intro;omega):p:=h x
theorem zj {a b p:Prop} (x:a) (y:b) (h:a→b→p:=by intros;omega):p:=h x y
theorem zd {p:Prop} (h:p:=by decide):p:=h
end Te
namespace Tw
theorem zo {p:Prop} (h:p:=by omega):p:=h
theorem zi {a p:Prop} (x:a) (h:a→p:=by intro;omega):p:=h x
theorem zj {a b p:Prop} (x:a) (y:b) (h:a→b→p:=by intros;omega):p:=h x y
theorem zd {p:Prop} (h:p:=by decide):p:=h
end Tw
namespace Go.Proofs.YteggjbgbknkoiaaGreatDoor
theorem zo {p:Prop} (h:p:=by omega):p:=h
theorem zi {a p:Prop} (x:a) (h:a→p:=by intro;omega):p:=h x
theorem zj {a b p:Prop} (x:a) (y:b) (h:a→b→p:=by intros;omega):p:=h x y
theorem zd {p:Prop} (h:p:=by decide):p:=h
end Go.Proofs.YteggjbgbknkoiaaGreatDoor
