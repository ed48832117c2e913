/-
  Small laws with default proofs.
-/
theorem aA:type_of% @Nat.le_refl:=@Nat.le_refl
theorem cA.{u}:type_of% @List.getElem?_eq_getElem.{u}:=@List.getElem?_eq_getElem.{u}
theorem dA.{u}:type_of% @if_neg.{u}:=@if_neg.{u}
theorem eA.{u}:type_of% @List.mem_of_getElem?.{u}:=@List.mem_of_getElem?.{u}
theorem fA.{u}:type_of% @List.take_of_length_le.{u}:=@List.take_of_length_le.{u}
theorem jA:type_of% @decide_eq_true:=@decide_eq_true
theorem mA.{u,v}:type_of% @List.getElem?_map.{u,v}:=@List.getElem?_map.{u,v}
theorem nA.{u,v}:type_of% @List.length_map.{u,v}:=@List.length_map.{u,v}
theorem qA.{u}:type_of% @List.getD_eq_getElem?_getD.{u}:=@List.getD_eq_getElem?_getD.{u}
theorem uA:type_of% @Nat.zero_le:=@Nat.zero_le
theorem wA:type_of% @Nat.le_trans:=@Nat.le_trans
theorem yA:type_of% @decide_eq_false:=@decide_eq_false
theorem zA:type_of% @Nat.mul_add:=@Nat.mul_add
theorem bB.{u}:type_of% @if_pos.{u}:=@if_pos.{u}
theorem cB.{u}:type_of% @List.getElem?_eq_none.{u}:=@List.getElem?_eq_none.{u}
theorem dB:type_of% @Bool.and_eq_true:=@Bool.and_eq_true
theorem eB:type_of% @Nat.lt_or_ge:=@Nat.lt_or_ge
theorem fB:type_of% @Nat.mul_le_mul_right:=@Nat.mul_le_mul_right
theorem jB.{u}:type_of% @List.mem_cons_of_mem.{u}:=@List.mem_cons_of_mem.{u}
theorem kB.{u}:type_of% @List.mem_cons_self.{u}:=@List.mem_cons_self.{u}
theorem mB.{u}:type_of% @List.length_take.{u}:=@List.length_take.{u}
theorem nB:type_of% @Nat.mul_assoc:=@Nat.mul_assoc
theorem qB:type_of% @Nat.mul_comm:=@Nat.mul_comm
theorem rB.{u}:type_of% @List.mem_cons.{u}:=@List.mem_cons.{u}
theorem sB.{u}:type_of% @List.all_eq_true.{u}:=@List.all_eq_true.{u}
theorem wB:type_of% @decide_eq_true_eq:=@decide_eq_true_eq
theorem xB:type_of% @Nat.add_mul:=@Nat.add_mul
theorem yB:type_of% @Nat.pow_succ:=@Nat.pow_succ
theorem aC:type_of% @Nat.mul_le_mul_left:=@Nat.mul_le_mul_left
theorem bC:type_of% @Nat.div_add_mod:=@Nat.div_add_mod
theorem cC.{u}:type_of% @List.length_cons.{u}:=@List.length_cons.{u}
theorem dC.{u}:type_of% @List.getElem?_eq_some_iff.{u}:=@List.getElem?_eq_some_iff.{u}
theorem eC:type_of% @Nat.div_lt_iff_lt_mul:=@Nat.div_lt_iff_lt_mul
theorem fC:type_of% @Nat.mod_lt:=@Nat.mod_lt
theorem gC:type_of% @Nat.lt_of_lt_of_le:=@Nat.lt_of_lt_of_le
theorem jC.{u}:type_of% @List.setIfInBounds_toArray.{u}:=@List.setIfInBounds_toArray.{u}
theorem kC:type_of% @Nat.mul_one:=@Nat.mul_one
theorem mC:type_of% @Nat.zero_add:=@Nat.zero_add
theorem nC.{u}:type_of% @List.length_set.{u}:=@List.length_set.{u}
theorem qC:type_of% @Nat.eq_zero_or_pos:=@Nat.eq_zero_or_pos
theorem rC.{u}:type_of% @List.eq_nil_of_length_eq_zero.{u}:=@List.eq_nil_of_length_eq_zero.{u}
theorem sC:type_of% @Nat.min_eq_left:=@Nat.min_eq_left
theorem tC:type_of% @Nat.pow_add:=@Nat.pow_add
theorem uC.{u}:type_of% @List.mem_singleton.{u}:=@List.mem_singleton.{u}
theorem wC:type_of% @Int.toNat_of_nonneg:=@Int.toNat_of_nonneg
theorem xC.{u,v}:type_of% @List.mem_map.{u,v}:=@List.mem_map.{u,v}
theorem yC:type_of% @Int.mul_le_mul_of_nonneg_right:=@Int.mul_le_mul_of_nonneg_right
theorem aD:type_of% @Nat.lt_of_le_of_lt:=@Nat.lt_of_le_of_lt
theorem bD:type_of% @Nat.add_zero:=@Nat.add_zero
theorem cD:type_of% @Nat.mod_eq_of_lt:=@Nat.mod_eq_of_lt
theorem dD:type_of% @Nat.two_pow_pos:=@Nat.two_pow_pos
theorem eD.{u}:type_of% @List.length_append.{u}:=@List.length_append.{u}
theorem fD.{u}:type_of% @List.drop_eq_getElem_cons.{u}:=@List.drop_eq_getElem_cons.{u}
theorem gD.{u}:type_of% @Array.getElem?_eq_none.{u}:=@Array.getElem?_eq_none.{u}
theorem jD:type_of% @Nat.mul_left_comm:=@Nat.mul_left_comm
theorem kD.{u}:type_of% @List.getElem?_append_right.{u}:=@List.getElem?_append_right.{u}
theorem mD.{u}:type_of% @List.take_append_drop.{u}:=@List.take_append_drop.{u}
theorem nD.{u}:type_of% @Array.getElem?_eq_getElem.{u}:=@Array.getElem?_eq_getElem.{u}
theorem qD.{u}:type_of% @List.drop_eq_nil_of_le.{u}:=@List.drop_eq_nil_of_le.{u}
theorem rD.{u}:type_of% @List.getElem?_take.{u}:=@List.getElem?_take.{u}
theorem sD.{u}:type_of% @List.set_cons_zero.{u}:=@List.set_cons_zero.{u}
theorem tD.{u}:type_of% @Array.getD_eq_getD_getElem?.{u}:=@Array.getD_eq_getD_getElem?.{u}
theorem uD.{u}:type_of% @List.mem_append.{u}:=@List.mem_append.{u}
theorem vD:type_of% @Nat.div_eq_of_lt:=@Nat.div_eq_of_lt
theorem wD:type_of% @Nat.pow_le_pow_right:=@Nat.pow_le_pow_right
theorem xD:type_of% @Nat.add_sub_cancel:=@Nat.add_sub_cancel
theorem yD.{u}:type_of% @List.set_cons_succ.{u}:=@List.set_cons_succ.{u}
theorem zD:type_of% @List.mem_range:=@List.mem_range
theorem bE.{u}:type_of% @List.cons_append.{u}:=@List.cons_append.{u}
theorem cE.{u,v}:type_of% @List.mem_map_of_mem.{u,v}:=@List.mem_map_of_mem.{u,v}
theorem dE.{u}:type_of% @Array.getElem?_toList.{u}:=@Array.getElem?_toList.{u}
theorem fE:type_of% @Nat.one_mul:=@Nat.one_mul
theorem gE:type_of% @Nat.add_assoc:=@Nat.add_assoc
theorem jE:type_of% @Int.sign_eq_neg_one_of_neg:=@Int.sign_eq_neg_one_of_neg
theorem kE:type_of% @Nat.add_mul_div_left:=@Nat.add_mul_div_left
theorem mE:type_of% @Nat.mul_zero:=@Nat.mul_zero
theorem nE.{u}:type_of% @List.getElem?_of_mem.{u}:=@List.getElem?_of_mem.{u}
theorem pE:type_of% @Rat.le_refl:=@Rat.le_refl
theorem qE:type_of% @Int.lt_trichotomy:=@Int.lt_trichotomy
theorem rE.{u}:type_of% @List.append_assoc.{u}:=@List.append_assoc.{u}
theorem sE:type_of% @Rat.add_zero:=@Rat.add_zero
theorem tE:type_of% @Nat.div_le_self:=@Nat.div_le_self
theorem uE.{u}:type_of% @List.nil_append.{u}:=@List.nil_append.{u}
theorem vE.{u,v}:type_of% @Option.map_some.{u,v}:=@Option.map_some.{u,v}
theorem wE.{u}:type_of% @Array.getElem?_eq_some_iff.{u}:=@Array.getElem?_eq_some_iff.{u}
theorem xE:type_of% @Nat.mul_le_mul:=@Nat.mul_le_mul
theorem yE:type_of% @Int.sign_eq_one_of_pos:=@Int.sign_eq_one_of_pos
theorem aF.{u}:type_of% @List.take_add_one.{u}:=@List.take_add_one.{u}
theorem bF.{u}:type_of% @List.getElem?_append_left.{u}:=@List.getElem?_append_left.{u}
theorem cF.{u,v}:type_of% @List.map_append.{u,v}:=@List.map_append.{u,v}
theorem dF.{u,v}:type_of% @List.foldl_cons.{u,v}:=@List.foldl_cons.{u,v}
theorem eF.{u}:type_of% @List.append_nil.{u}:=@List.append_nil.{u}
theorem fF.{u}:type_of% @List.getElem?_toArray.{u}:=@List.getElem?_toArray.{u}
theorem gF:type_of% @Nat.lt_succ_self:=@Nat.lt_succ_self
theorem jF.{u}:type_of% @List.ext_getElem?.{u}:=@List.ext_getElem?.{u}
theorem kF:type_of% @Nat.mod_add_div:=@Nat.mod_add_div
theorem mF:type_of% @Nat.not_lt_zero:=@Nat.not_lt_zero
theorem nF:type_of% @Int.ediv_nonneg:=@Int.ediv_nonneg
theorem pF:type_of% @Int.natCast_mul:=@Int.natCast_mul
theorem qF.{u}:type_of% @List.getElem?_set_self.{u}:=@List.getElem?_set_self.{u}
theorem rF.{u}:type_of% @List.not_mem_nil.{u}:=@List.not_mem_nil.{u}
theorem sF:type_of% @Int.mul_nonneg:=@Int.mul_nonneg
theorem tF.{u}:type_of% @List.mem_or_eq_of_mem_set.{u}:=@List.mem_or_eq_of_mem_set.{u}
theorem uF:type_of% @Nat.add_mul_mod_self_left:=@Nat.add_mul_mod_self_left
theorem vF:type_of% @Nat.lt_of_mul_lt_mul_left:=@Nat.lt_of_mul_lt_mul_left
theorem wF.{u,v}:type_of% @List.getElem?_zip_eq_some.{u,v}:=@List.getElem?_zip_eq_some.{u,v}
theorem xF.{u}:type_of% @List.mem_of_mem_take.{u}:=@List.mem_of_mem_take.{u}
theorem yF:type_of% @Nat.zero_mul:=@Nat.zero_mul
theorem zF:type_of% @Rat.zero_add:=@Rat.zero_add
theorem aG.{u}:type_of% @List.getD_cons_zero.{u}:=@List.getD_cons_zero.{u}
theorem bG.{u}:type_of% @List.take_set_of_le.{u}:=@List.take_set_of_le.{u}
theorem cG.{u}:type_of% @List.getElem_mem.{u}:=@List.getElem_mem.{u}
theorem dG:type_of% @Nat.min_eq_right:=@Nat.min_eq_right
theorem eG:type_of% @Nat.succ_mul:=@Nat.succ_mul
theorem fG.{u,v}:type_of% @List.map_cons.{u,v}:=@List.map_cons.{u,v}
theorem gG:type_of% @Int.mul_pos:=@Int.mul_pos
namespace Go.Proofs
theorem zo {p:Prop} (h:p:=by omega):p:=h
theorem zi {a p:Prop} (x:a) (h:a→p:=by intro;omega):p:=h x
theorem zj {a b p:Prop} (x:a) (y:b) (h:a→b→p:=by intros;omega):p:=h x y
theorem zd {p:Prop} (h:p:=by decide):p:=h
theorem vAa {α:Type} {a b:List α}:a.append b=a++b:=rfl
theorem vBa {α:Type} {x:α} {a b:List α}:x::a++b=x::(a++b):=rfl
theorem vC {α:Type} {b:List α}:[]++b=b:=rfl
end Go.Proofs
namespace Te
theorem zo {p:Prop} (h:p:=by omega):p:=h
theorem zi {a p:Prop} (x:a) (h:a→p:=by intro;omega):p:=h x
theorem zj {a b p:Prop} (x:a) (y:b) (h:a→b→p:=by intros;omega):p:=h x y
theorem zd {p:Prop} (h:p:=by decide):p:=h
end Te
namespace Tw
theorem zo {p:Prop} (h:p:=by omega):p:=h
theorem zi {a p:Prop} (x:a) (h:a→p:=by intro;omega):p:=h x
theorem zj {a b p:Prop} (x:a) (y:b) (h:a→b→p:=by intros;omega):p:=h x y
theorem zd {p:Prop} (h:p:=by decide):p:=h
end Tw
namespace Go.Proofs.YtiondclbdgijbaaGreatDoor
theorem zo {p:Prop} (h:p:=by omega):p:=h
theorem zi {a p:Prop} (x:a) (h:a→p:=by intro;omega):p:=h x
theorem zj {a b p:Prop} (x:a) (y:b) (h:a→b→p:=by intros;omega):p:=h x y
theorem zd {p:Prop} (h:p:=by decide):p:=h
end Go.Proofs.YtiondclbdgijbaaGreatDoor
