/-
  Small laws with default proofs.
-/
theorem aA.{u}:type_of% @List.getElem?_eq_getElem.{u}:=@List.getElem?_eq_getElem.{u}
theorem bA.{u}:type_of% @List.getD_eq_getElem?_getD.{u}:=@List.getD_eq_getElem?_getD.{u}
theorem cA:type_of% @Nat.le_refl:=@Nat.le_refl
theorem dA.{u}:type_of% @List.mem_of_getElem?.{u}:=@List.mem_of_getElem?.{u}
theorem eA.{u}:type_of% @List.take_of_length_le.{u}:=@List.take_of_length_le.{u}
theorem fA.{u}:type_of% @if_neg.{u}:=@if_neg.{u}
theorem gA.{u}:type_of% @if_pos.{u}:=@if_pos.{u}
theorem jA:type_of% @Nat.mul_add:=@Nat.mul_add
theorem kA:type_of% @Nat.le_trans:=@Nat.le_trans
theorem nA:type_of% @Nat.zero_le:=@Nat.zero_le
theorem pA.{u}:type_of% @List.mem_cons_self.{u}:=@List.mem_cons_self.{u}
theorem qA.{u}:type_of% @List.mem_cons_of_mem.{u}:=@List.mem_cons_of_mem.{u}
theorem rA.{u,v}:type_of% @List.getElem?_map.{u,v}:=@List.getElem?_map.{u,v}
theorem tA:type_of% @Nat.mul_comm:=@Nat.mul_comm
theorem wA:type_of% @Nat.mul_assoc:=@Nat.mul_assoc
theorem yA.{u}:type_of% @List.getElem?_eq_some_iff.{u}:=@List.getElem?_eq_some_iff.{u}
theorem zA.{u}:type_of% @List.length_take.{u}:=@List.length_take.{u}
theorem bB.{u}:type_of% @List.getElem?_eq_none.{u}:=@List.getElem?_eq_none.{u}
theorem cB.{u,v}:type_of% @List.length_map.{u,v}:=@List.length_map.{u,v}
theorem dB:type_of% @Nat.pow_succ:=@Nat.pow_succ
theorem eB:type_of% @Nat.lt_of_lt_of_le:=@Nat.lt_of_lt_of_le
theorem jB:type_of% @decide_eq_false:=@decide_eq_false
theorem kB:type_of% @Nat.lt_or_ge:=@Nat.lt_or_ge
theorem mB:type_of% @Nat.eq_zero_or_pos:=@Nat.eq_zero_or_pos
theorem nB.{u}:type_of% @List.length_set.{u}:=@List.length_set.{u}
theorem pB:type_of% @Nat.lt_of_le_of_lt:=@Nat.lt_of_le_of_lt
theorem qB:type_of% @Nat.mul_le_mul_left:=@Nat.mul_le_mul_left
theorem rB:type_of% @Nat.mul_le_mul_right:=@Nat.mul_le_mul_right
theorem sB.{u}:type_of% @List.mem_cons.{u}:=@List.mem_cons.{u}
theorem wB:type_of% @Nat.pow_add:=@Nat.pow_add
theorem xB:type_of% @Nat.zero_add:=@Nat.zero_add
theorem yB:type_of% @Rat.intCast_mul:=@Rat.intCast_mul
theorem aC:type_of% @Nat.add_mul:=@Nat.add_mul
theorem bC.{u}:type_of% @List.mem_append.{u}:=@List.mem_append.{u}
theorem cC.{u}:type_of% @List.mem_singleton.{u}:=@List.mem_singleton.{u}
theorem dC:type_of% @Nat.div_add_mod:=@Nat.div_add_mod
theorem eC:type_of% @Nat.div_lt_iff_lt_mul:=@Nat.div_lt_iff_lt_mul
theorem fC:type_of% @decide_eq_true:=@decide_eq_true
theorem gC:type_of% @Nat.mod_lt:=@Nat.mod_lt
theorem jC:type_of% @Nat.add_zero:=@Nat.add_zero
theorem kC:type_of% @Bool.and_eq_true:=@Bool.and_eq_true
theorem mC:type_of% @Nat.pow_le_pow_right:=@Nat.pow_le_pow_right
theorem nC.{u}:type_of% @List.length_replicate.{u}:=@List.length_replicate.{u}
theorem pC:type_of% @Nat.mul_le_mul:=@Nat.mul_le_mul
theorem qC.{u}:type_of% @List.length_cons.{u}:=@List.length_cons.{u}
theorem rC:type_of% @Int.natAbs_mul:=@Int.natAbs_mul
theorem sC.{u}:type_of% @List.mem_or_eq_of_mem_set.{u}:=@List.mem_or_eq_of_mem_set.{u}
theorem tC.{u,v}:type_of% @List.mem_map.{u,v}:=@List.mem_map.{u,v}
theorem uC:type_of% @Rat.add_zero:=@Rat.add_zero
theorem wC:type_of% @Nat.mul_one:=@Nat.mul_one
theorem xC.{u}:type_of% @List.take_append_drop.{u}:=@List.take_append_drop.{u}
theorem yC.{u}:type_of% @List.length_append.{u}:=@List.length_append.{u}
theorem aD:type_of% @Nat.div_eq_of_lt:=@Nat.div_eq_of_lt
theorem bD.{u}:type_of% @List.getElem?_of_mem.{u}:=@List.getElem?_of_mem.{u}
theorem cD.{u}:type_of% @List.getElem?_replicate.{u}:=@List.getElem?_replicate.{u}
theorem dD:type_of% @Nat.min_eq_left:=@Nat.min_eq_left
theorem eD.{u}:type_of% @List.drop_eq_nil_of_le.{u}:=@List.drop_eq_nil_of_le.{u}
theorem fD.{u}:type_of% @List.getElem?_append_right.{u}:=@List.getElem?_append_right.{u}
theorem gD:type_of% @Int.sign_eq_neg_one_of_neg:=@Int.sign_eq_neg_one_of_neg
theorem jD:type_of% @Nat.mod_eq_of_lt:=@Nat.mod_eq_of_lt
theorem kD:type_of% @Nat.mul_left_comm:=@Nat.mul_left_comm
theorem mD:type_of% @Nat.two_pow_pos:=@Nat.two_pow_pos
theorem nD.{u}:type_of% @List.drop_eq_getElem_cons.{u}:=@List.drop_eq_getElem_cons.{u}
theorem pD.{u}:type_of% @List.getElem?_set_self.{u}:=@List.getElem?_set_self.{u}
theorem qD:type_of% @Int.sign_eq_one_of_pos:=@Int.sign_eq_one_of_pos
theorem rD.{u}:type_of% @List.getElem?_set_ne.{u}:=@List.getElem?_set_ne.{u}
theorem sD:type_of% @Rat.div_mul_cancel:=@Rat.div_mul_cancel
theorem tD.{u}:type_of% @List.eq_nil_of_length_eq_zero.{u}:=@List.eq_nil_of_length_eq_zero.{u}
theorem uD.{u}:type_of% @Array.getElem?_toList.{u}:=@Array.getElem?_toList.{u}
theorem vD:type_of% @Int.mul_ne_zero:=@Int.mul_ne_zero
theorem wD.{u}:type_of% @List.all_eq_true.{u}:=@List.all_eq_true.{u}
theorem xD:type_of% @decide_eq_true_eq:=@decide_eq_true_eq
theorem yD:type_of% @Nat.add_mul_div_left:=@Nat.add_mul_div_left
theorem zD.{u}:type_of% @List.eq_of_mem_replicate.{u}:=@List.eq_of_mem_replicate.{u}
theorem bE:type_of% @Nat.add_sub_cancel:=@Nat.add_sub_cancel
theorem cE.{u,v}:type_of% @Option.map_some.{u,v}:=@Option.map_some.{u,v}
theorem dE:type_of% @Nat.one_mul:=@Nat.one_mul
theorem eE:type_of% @Nat.pow_mul:=@Nat.pow_mul
theorem fE:type_of% @Rat.zero_add:=@Rat.zero_add
theorem gE:type_of% @Int.lt_trichotomy:=@Int.lt_trichotomy
theorem jE.{u}:type_of% @Array.getElem?_eq_getElem.{u}:=@Array.getElem?_eq_getElem.{u}
theorem kE.{u}:type_of% @List.getElem?_take.{u}:=@List.getElem?_take.{u}
theorem mE:type_of% @Nat.div_le_self:=@Nat.div_le_self
theorem nE:type_of% @Rat.zero_mul:=@Rat.zero_mul
theorem pE:type_of% @Nat.mul_zero:=@Nat.mul_zero
theorem qE:type_of% @Nat.add_assoc:=@Nat.add_assoc
theorem rE:type_of% @Nat.pow_pos:=@Nat.pow_pos
theorem sE:type_of% @Nat.gcd_zero_left:=@Nat.gcd_zero_left
theorem tE.{u}:type_of% @List.ext_getElem?.{u}:=@List.ext_getElem?.{u}
theorem uE:type_of% @Rat.mul_zero:=@Rat.mul_zero
theorem vE:type_of% @Nat.sub_self:=@Nat.sub_self
theorem wE:type_of% @Nat.gcd_zero_right:=@Nat.gcd_zero_right
theorem xE:type_of% @Int.natAbs_natCast:=@Int.natAbs_natCast
theorem yE.{u}:type_of% @List.cons_append.{u}:=@List.cons_append.{u}
theorem aF.{u}:type_of% @List.pairwise_append.{u}:=@List.pairwise_append.{u}
theorem bF:type_of% @Nat.div_div_eq_div_mul:=@Nat.div_div_eq_div_mul
theorem cF.{u}:type_of% @List.take_zero.{u}:=@List.take_zero.{u}
theorem dF.{u}:type_of% @List.append_assoc.{u}:=@List.append_assoc.{u}
theorem eF:type_of% @Int.toNat_natCast:=@Int.toNat_natCast
theorem fF:type_of% @List.length_range:=@List.length_range
theorem gF.{u}:type_of% @List.getElem?_append_left.{u}:=@List.getElem?_append_left.{u}
theorem jF.{u,v}:type_of% @List.map_append.{u,v}:=@List.map_append.{u,v}
theorem kF:type_of% @Nat.pos_of_ne_zero:=@Nat.pos_of_ne_zero
theorem mF.{u}:type_of% @List.append_nil.{u}:=@List.append_nil.{u}
theorem nF:type_of% @Nat.mod_add_div:=@Nat.mod_add_div
theorem pF.{u}:type_of% @List.replicate_succ.{u}:=@List.replicate_succ.{u}
theorem qF.{u,v}:type_of% @List.mem_map_of_mem.{u,v}:=@List.mem_map_of_mem.{u,v}
theorem rF:type_of% @List.getElem?_range:=@List.getElem?_range
theorem sF:type_of% @Int.toNat_of_nonneg:=@Int.toNat_of_nonneg
theorem tF:type_of% @Rat.add_assoc:=@Rat.add_assoc
theorem uF.{u}:type_of% @Array.getElem?_eq_some_iff.{u}:=@Array.getElem?_eq_some_iff.{u}
theorem vF.{u}:type_of% @List.set_append_right.{u}:=@List.set_append_right.{u}
theorem wF:type_of% @Int.natAbs_neg:=@Int.natAbs_neg
theorem xF:type_of% @List.mem_range:=@List.mem_range
theorem yF:type_of% @Nat.add_mul_mod_self_left:=@Nat.add_mul_mod_self_left
theorem zF:type_of% @Nat.lt_of_mul_lt_mul_left:=@Nat.lt_of_mul_lt_mul_left
theorem aG:type_of% @Int.sign_eq_zero_iff_zero:=@Int.sign_eq_zero_iff_zero
theorem bG.{u}:type_of% @List.pairwise_iff_getElem.{u}:=@List.pairwise_iff_getElem.{u}
theorem cG:type_of% @Int.mul_pos:=@Int.mul_pos
theorem dG.{u}:type_of% @List.mem_of_mem_take.{u}:=@List.mem_of_mem_take.{u}
theorem eG:type_of% @Nat.gcd_comm:=@Nat.gcd_comm
theorem fG.{u}:type_of% @List.take_add_one.{u}:=@List.take_add_one.{u}
theorem gG.{u,v}:type_of% @List.pairwise_map.{u,v}:=@List.pairwise_map.{u,v}
theorem jG.{u}:type_of% @List.getD_cons_zero.{u}:=@List.getD_cons_zero.{u}
theorem kG.{u}:type_of% @List.filter_cons.{u}:=@List.filter_cons.{u}
theorem mG.{u}:type_of% @List.length_drop.{u}:=@List.length_drop.{u}
theorem nG:type_of% @Nat.zero_mul:=@Nat.zero_mul
theorem pG.{u}:type_of% @List.nil_append.{u}:=@List.nil_append.{u}
namespace Go.Proofs
theorem zo {p:Prop} (h:p:=by omega):p:=h
theorem zi {a p:Prop} (x:a) (h:a→p:=by intro;omega):p:=h x
theorem zj {a b p:Prop} (x:a) (y:b) (h:a→b→p:=by intros;omega):p:=h x y
theorem zd {p:Prop} (h:p:=by decide):p:=h
theorem vAa {α:Type} {a b:List α}:a.append b=a++b:=rfl
theorem vBa {α:Type} {x:α} {a b:List α}:x::a++b=x::(a++b):=rfl
theorem vC {α:Type} {b:List α}:[]++b=b:=rfl
end Go.Proofs
namespace Te
theorem zo {p:Prop} (h:p:=by omega):p:=h
theorem zi {a p:Prop} (x:a) (h:a→p:=by intro;omega):p:=h x
theorem zj {a b p:Prop} (x:a) (y:b) (h:a→b→p:=by intros;omega):p:=h x y
theorem zd {p:Prop} (h:p:=by decide):p:=h
end Te
namespace Tw
theorem zo {p:Prop} (h:p:=by omega):p:=h
theorem zi {a p:Prop} (x:a) (h:a→p:=by intro;omega):p:=h x
theorem zj {a b p:Prop} (x:a) (y:b) (h:a→b→p:=by intros;omega):p:=h x y
theorem zd {p:Prop} (h:p:=by decide):p:=h
end Tw
namespace Go.Proofs.YteggjbgbknkoiaaGreatDoor
theorem zo {p:Prop} (h:p:=by omega):p:=h
theorem zi {a p:Prop} (x:a) (h:a→p:=by intro;omega):p:=h x
theorem zj {a b p:Prop} (x:a) (y:b) (h:a→b→p:=by intros;omega):p:=h x y
theorem zd {p:Prop} (h:p:=by decide):p:=h
end Go.Proofs.YteggjbgbknkoiaaGreatDoor
