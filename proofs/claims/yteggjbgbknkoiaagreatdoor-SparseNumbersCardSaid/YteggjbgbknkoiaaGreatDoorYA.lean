/-
  Small laws with default proofs.
-/
theorem aA:type_of% @Nat.le_refl:=@Nat.le_refl
theorem bA:type_of% @decide_eq_true:=@decide_eq_true
theorem cA:type_of% @decide_eq_false:=@decide_eq_false
theorem dA.{u}:type_of% @List.getD_eq_getElem?_getD.{u}:=@List.getD_eq_getElem?_getD.{u}
theorem eA:type_of% @Nat.mul_add:=@Nat.mul_add
theorem fA.{u}:type_of% @List.take_of_length_le.{u}:=@List.take_of_length_le.{u}
theorem gA.{u}:type_of% @List.getElem?_eq_getElem.{u}:=@List.getElem?_eq_getElem.{u}
theorem jA.{u}:type_of% @List.mem_of_getElem?.{u}:=@List.mem_of_getElem?.{u}
theorem kA:type_of% @Nat.mul_assoc:=@Nat.mul_assoc
theorem mA:type_of% @Nat.le_trans:=@Nat.le_trans
theorem nA.{u}:type_of% @List.length_take.{u}:=@List.length_take.{u}
theorem qA:type_of% @Nat.mul_comm:=@Nat.mul_comm
theorem rA:type_of% @Nat.lt_or_ge:=@Nat.lt_or_ge
theorem tA.{u}:type_of% @if_neg.{u}:=@if_neg.{u}
theorem uA.{u}:type_of% @List.getElem?_eq_none.{u}:=@List.getElem?_eq_none.{u}
theorem wA:type_of% @Nat.zero_le:=@Nat.zero_le
theorem xA.{u}:type_of% @List.mem_cons_of_mem.{u}:=@List.mem_cons_of_mem.{u}
theorem yA.{u}:type_of% @if_pos.{u}:=@if_pos.{u}
theorem zA:type_of% @Nat.pow_succ:=@Nat.pow_succ
theorem cB.{u}:type_of% @List.mem_cons_self.{u}:=@List.mem_cons_self.{u}
theorem dB:type_of% @Nat.div_lt_iff_lt_mul:=@Nat.div_lt_iff_lt_mul
theorem eB:type_of% @Nat.div_add_mod:=@Nat.div_add_mod
theorem fB:type_of% @Nat.mul_le_mul_right:=@Nat.mul_le_mul_right
theorem jB:type_of% @Nat.add_mul:=@Nat.add_mul
theorem kB:type_of% @Nat.mod_lt:=@Nat.mod_lt
theorem mB:type_of% @Nat.mul_le_mul_left:=@Nat.mul_le_mul_left
theorem nB.{u}:type_of% @List.length_set.{u}:=@List.length_set.{u}
theorem qB:type_of% @Nat.zero_add:=@Nat.zero_add
theorem rB:type_of% @Nat.min_eq_left:=@Nat.min_eq_left
theorem wB.{u}:type_of% @List.mem_cons.{u}:=@List.mem_cons.{u}
theorem xB:type_of% @Nat.mod_eq_of_lt:=@Nat.mod_eq_of_lt
theorem yB:type_of% @Nat.eq_zero_or_pos:=@Nat.eq_zero_or_pos
theorem aC.{u}:type_of% @List.getElem?_eq_some_iff.{u}:=@List.getElem?_eq_some_iff.{u}
theorem bC.{u}:type_of% @List.drop_eq_nil_of_le.{u}:=@List.drop_eq_nil_of_le.{u}
theorem cC:type_of% @Nat.two_pow_pos:=@Nat.two_pow_pos
theorem dC:type_of% @Nat.lt_of_le_of_lt:=@Nat.lt_of_le_of_lt
theorem eC:type_of% @Nat.pow_add:=@Nat.pow_add
theorem fC:type_of% @Nat.div_eq_of_lt:=@Nat.div_eq_of_lt
theorem gC:type_of% @Bool.and_eq_true:=@Bool.and_eq_true
theorem jC:type_of% @Nat.mul_left_comm:=@Nat.mul_left_comm
theorem kC.{u}:type_of% @List.mem_singleton.{u}:=@List.mem_singleton.{u}
theorem mC.{u}:type_of% @List.eq_nil_of_length_eq_zero.{u}:=@List.eq_nil_of_length_eq_zero.{u}
theorem nC.{u}:type_of% @List.drop_eq_getElem_cons.{u}:=@List.drop_eq_getElem_cons.{u}
theorem qC.{u,v}:type_of% @List.getElem?_map.{u,v}:=@List.getElem?_map.{u,v}
theorem rC:type_of% @Nat.lt_of_lt_of_le:=@Nat.lt_of_lt_of_le
theorem sC:type_of% @Nat.add_zero:=@Nat.add_zero
theorem tC:type_of% @Nat.pow_le_pow_right:=@Nat.pow_le_pow_right
theorem uC.{u}:type_of% @List.getElem?_take.{u}:=@List.getElem?_take.{u}
theorem wC:type_of% @Nat.add_sub_cancel:=@Nat.add_sub_cancel
theorem xC.{u}:type_of% @List.mem_append.{u}:=@List.mem_append.{u}
theorem yC.{u}:type_of% @List.take_append_drop.{u}:=@List.take_append_drop.{u}
theorem aD.{u}:type_of% @Array.getElem?_toList.{u}:=@Array.getElem?_toList.{u}
theorem bD:type_of% @Nat.one_mul:=@Nat.one_mul
theorem cD:type_of% @Nat.add_assoc:=@Nat.add_assoc
theorem dD:type_of% @Int.sign_eq_neg_one_of_neg:=@Int.sign_eq_neg_one_of_neg
theorem eD:type_of% @Nat.add_mul_div_left:=@Nat.add_mul_div_left
theorem fD:type_of% @Nat.mul_zero:=@Nat.mul_zero
theorem gD.{u}:type_of% @Array.getElem?_eq_getElem.{u}:=@Array.getElem?_eq_getElem.{u}
theorem jD:type_of% @Int.lt_trichotomy:=@Int.lt_trichotomy
theorem kD:type_of% @Rat.add_zero:=@Rat.add_zero
theorem mD:type_of% @Nat.div_le_self:=@Nat.div_le_self
theorem nD.{u}:type_of% @List.length_cons.{u}:=@List.length_cons.{u}
theorem qD:type_of% @Int.sign_eq_one_of_pos:=@Int.sign_eq_one_of_pos
theorem rD:type_of% @Nat.mul_one:=@Nat.mul_one
theorem sD:type_of% @Nat.mod_add_div:=@Nat.mod_add_div
theorem tD.{u}:type_of% @Array.getElem?_eq_some_iff.{u}:=@Array.getElem?_eq_some_iff.{u}
theorem uD:type_of% @Int.natAbs_natCast:=@Int.natAbs_natCast
theorem vD.{u}:type_of% @List.mem_or_eq_of_mem_set.{u}:=@List.mem_or_eq_of_mem_set.{u}
theorem wD:type_of% @Nat.add_mul_mod_self_left:=@Nat.add_mul_mod_self_left
theorem xD:type_of% @Nat.lt_of_mul_lt_mul_left:=@Nat.lt_of_mul_lt_mul_left
theorem yD.{u}:type_of% @List.getD_cons_zero.{u}:=@List.getD_cons_zero.{u}
theorem zD.{u}:type_of% @List.cons_append.{u}:=@List.cons_append.{u}
theorem bE:type_of% @Nat.min_eq_right:=@Nat.min_eq_right
theorem cE:type_of% @Rat.zero_add:=@Rat.zero_add
theorem dE.{u,v}:type_of% @Option.map_some.{u,v}:=@Option.map_some.{u,v}
namespace Go.Proofs
theorem zo {p:Prop} (h:p:=by omega):p:=h
theorem zi {a p:Prop} (x:a) (h:a→p:=by intro;omega):p:=h x
theorem zj {a b p:Prop} (x:a) (y:b) (h:a→b→p:=by intros;omega):p:=h x y
theorem zd {p:Prop} (h:p:=by decide):p:=h
theorem vA {α:Type} {a b:List α}:a.append b=a++b:=rfl
theorem vBa {α:Type} {x:α} {a b:List α}:x::a++b=x::(a++b):=rfl
theorem vC {α:Type} {b:List α}:[]++b=b:=rfl
end Go.Proofs
namespace Te
theorem zo {p:Prop} (h:p:=by omega):p:=h
theorem zi {a p:Prop} (x:a) (h:a→p:=by intro;omega):p:=h x
theorem zj {a b p:Prop} (x:a) (y:b) (h:a→b→p:=by intros;omega):p:=h x y
theorem zd {p:Prop} (h:p:=by decide):p:=h
end Te
namespace Tw
theorem zo {p:Prop} (h:p:=by omega):p:=h
theorem zi {a p:Prop} (x:a) (h:a→p:=by intro;omega):p:=h x
theorem zj {a b p:Prop} (x:a) (y:b) (h:a→b→p:=by intros;omega):p:=h x y
theorem zd {p:Prop} (h:p:=by decide):p:=h
end Tw
namespace Go.Proofs.YteggjbgbknkoiaaGreatDoor
theorem zo {p:Prop} (h:p:=by omega):p:=h
theorem zi {a p:Prop} (x:a) (h:a→p:=by intro;omega):p:=h x
theorem zj {a b p:Prop} (x:a) (y:b) (h:a→b→p:=by intros;omega):p:=h x y
theorem zd {p:Prop} (h:p:=by decide):p:=h
end Go.Proofs.YteggjbgbknkoiaaGreatDoor
