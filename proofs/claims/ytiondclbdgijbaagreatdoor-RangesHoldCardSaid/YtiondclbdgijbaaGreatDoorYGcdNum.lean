import Derived.Test.YtiondclbdgijbaaGreatDoorYZNum
import Derived.Lib.TrailingZeros
namespace Tw
theorem cop2 {y:Nat} (h:y % 2=1) (t:Nat):Nat.Coprime (2 ^ t) y:=by
 have:Nat.Coprime 2 y:=by unfold Nat.Coprime;rw[Nat.gcd_rec,h];rfl
 exact this.pow_left t
theorem gcd_two {t m y:Nat} (h:y % 2=1):Nat.gcd (2 ^ t*m) y=Nat.gcd m y:=Nat.Coprime.gcd_mul_left_cancel m (cop2 h t)
theorem gcd_start {p q a b:Nat} (ha:a % 2=1) (hb:b % 2=1):Nat.gcd (2 ^ p*a) (2 ^ q*b)=2 ^ min p q*Nat.gcd a b:=by
 rcases Nat.le_total p q with h | h
 ·rw[sC h,show q=p+(q-p) from by omega,tC,nB,Nat.gcd_mul_left,Nat.gcd_comm a,gcd_two ha,Nat.gcd_comm b]
 ·rw[dG h,show p=q+(p-q) from by omega,tC,nB,Nat.gcd_mul_left,gcd_two hb]
theorem gcd_round {x y t m:Nat} (hx:y<x) (hy:y % 2=1) (he:x-y=2 ^ t*m):Nat.gcd m y=Nat.gcd x y:=by
 rw[←gcd_two (t:=t) hy,←he,Nat.gcd_sub_self_left zo]
theorem half_lt {x y t m:Nat} (hx:y<x) (hox:x % 2=1) (hoy:y % 2=1) (hm:m % 2=1) (he:x-y=2 ^ t*m):m<x:=by
 have h1:m≤2 ^ t*m:=Nat.le_mul_of_pos_left _ (dD t);omega
def Twos (v t m:Nat):Prop:=v=2 ^ t*m∧m % 2=1
theorem Twos.div {v t m:Nat} (h:Twos v t m):v / 2 ^ t=m:=by rw[h.1,Nat.mul_div_cancel_left _ (dD t)]
theorem Twos.lt {v t m:Nat} (h:Twos v t m) {k:Nat} (hk:v<2 ^ k):t<k:=by
 rcases eB t k with h1 | h1
 ·exact h1
 ·exfalso
  have h2:2 ^ k≤2 ^ t:=wD zo h1;have h3:=h.1;have h4:=h.2;have:2 ^ t*1≤2 ^ t*m:=aC _ zo;omega
def ZeroTo (xs:List Nat) (k:Nat):Prop:=val (xs.take k)=0
theorem ZeroTo.start (xs:List Nat):ZeroTo xs 0:=by simp[ZeroTo,val]
theorem ZeroTo.step {xs:List Nat} {k:Nat} (h:ZeroTo xs k) (hd:dg xs k=0):ZeroTo xs (k+1):=by
 unfold ZeroTo at *
 rw[val_take_succ',h];show 0+B ^ k*dg xs k=0
 rw[hd];simp
theorem ZeroTo.lt {xs:List Nat} {k:Nat} (h:ZeroTo xs k) (h0:val xs≠0):k<xs.length:=by
 rcases eB k xs.length with h1 | h1
 ·exact h1
 ·unfold ZeroTo at h;rw[fA h1] at h;exact absurd h h0
theorem ZeroTo.done {xs:List Nat} {k:Nat} (h:ZeroTo xs k) (ho:Ok xs) (hk:k<xs.length) (hd:dg xs k≠0):∃m,Twos (val xs) (64*k+Go.Lib.ctz 64 (dg xs k)) m∧Go.Lib.ctz 64 (dg xs k)<64:=by
 have hdB:=dg_lt ho k;unfold Go.Lib.ctz
 rw[dA hd];obtain⟨m,e1,e2⟩:=Go.Lib.ctzFrom_spec 64 (dg xs k) (Nat.pos_of_ne_zero hd) hdB;generalize Go.Lib.ctzFrom 64 (dg xs k)=t at *
 refine⟨2*m+1+2 ^ (64-t)*val (xs.drop (k+1)),⟨?_,?_⟩,e2⟩
 ·have e3:=val_split xs k;unfold ZeroTo at h
  have e4:val (xs.drop k)=dg xs k+B*val (xs.drop (k+1)):=by
   rw[fD hk,val_cons];unfold dg
   rw[qA,cA hk];rfl
  rw[e3,h,mC,e4,tC,pow_B,nB];congr 1
  rw[zA,←e1,←nB,pow64 zo]
 ·have:2 ^ (64-t)=2*2 ^ (63-t):=by rw[←Nat.pow_succ'];congr 1;omega
  rw[this,nB];omega
end Tw
