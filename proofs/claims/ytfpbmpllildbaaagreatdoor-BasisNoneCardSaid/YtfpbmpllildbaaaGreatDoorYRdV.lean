/-
  From a row's own readings to the walks: slices of anything that came in; fractions, terms, whole numbers.
-/
import Derived.Test.YtfpbmpllildbaaaGreatDoorYRead
import Derived.Test.YtfpbmpllildbaaaGreatDoorYRow
set_option maxRecDepth 100000
namespace Go.Proofs.YtfpbmpllildbaaaGreatDoor
open Go.ChangeShapes Go.WideShapes Go.ChangeAt Go.RowKit Tw
theorem slice_of {H:Type} {enc:TypeId×Value→H} {W:World} {b:Nat} {sp:Nat→Bool} {hd:Bool} {fuel:Nat} {cs0:List Value} {y:DataW H×List MemPlace} {α:Type} (f:α→List Value) (k:Nat) {ts te:TypeId} (P:α→Prop)
  (hu:Tryz.prog.underlying ts=some (.slice te)) (hC:Tryz.prog.cellsOf te=k) (h0:0<k) (hlen:∀x,(f x).length=k)
  (hel:∀(fuel:Nat) (cs:List Value) (y:DataW H×List MemPlace),cs.length=k→DataW.trod enc Tryz.prog W b sp hd fuel te cs=some y→∃x,cs=f x∧P x)
  (hf:DataW.trod enc Tryz.prog W b sp hd fuel ts cs0=some y):∃A n c L,cs0=[.slice A n c]∧n≤c∧c≤maxLen∧Sl f k W A n c L∧∀x∈L,P x:=by
 rcases Go.Deep.open_slice hu hf with⟨h1,_⟩ | ⟨a,len,cap,m,n,D,Pl,h1,_,h3,h4,h5,_,h7⟩
 ·exact⟨none,0,0,[],h1,Nat.le_refl _,zo,Sl.nil W,by simp⟩
 ·have hm:len≤m:=by rw[h5];split<;>omega
  have key:∀i,i<len→∃x,(∀j c,(f x)[j]?=some c→W.cell? (a.add (i*k+j))=some c)∧P x:=fun i hi=>by
   obtain⟨cs,hc,ht⟩:=h7 i zo;rw[hC] at hc;obtain⟨_,hcl,hat⟩:=World.cells?_some hc;obtain⟨x,rfl,hx⟩:=hel _ _ _ hcl ht;refine⟨x,fun j c hj=>?_,hx⟩;have hjk:j<k:=by
    rcases Nat.lt_or_ge j k with h | h
    ·exact h
    ·rw[List.getElem?_eq_none (by rw[hlen];exact h)] at hj;cases hj
   rw[←Go.Deep.add_add,hat j hjk];exact hj
  have all:∀q,q≤len→∃L:List α,L.length=q∧∀i x,L[i]?=some x→(∀j c,(f x)[j]?=some c→W.cell? (a.add (i*k+j))=some c)∧P x:=fun q=>by
   induction q with
   | zero=>exact fun _=>⟨[],rfl,fun i x hx=>by simp at hx⟩
   | succ q ih =>
    intro hq;obtain⟨L,hl,hL⟩:=ih zo;obtain⟨x,hx⟩:=key q zo;refine⟨L++[x],by simp[hl],fun i z hz=>?_⟩;rcases Nat.lt_or_ge i q with h | h
    ·rw[List.getElem?_append_left zo] at hz;exact hL i z hz
    ·rw[List.getElem?_append_right zo] at hz;have hi:i-L.length=0:=by
      rcases Nat.eq_zero_or_pos (i-L.length) with h | h
      ·exact h
      ·rw[List.getElem?_eq_none (by simp;omega)] at hz;cases hz
     rw[hi] at hz;obtain rfl:x=z:=by simpa using hz
     obtain rfl:i=q:=zo;exact hx
  obtain⟨L,hl,hL⟩:=all len (Nat.le_refl _);refine⟨some a,len,cap,L,h1,h3,h4,⟨hl,by rw[flat_len hlen,hl],some a,cap,rfl,(fun h=>(by cases h)),fun ad ha j u hu=>?_⟩,fun x hx=>?_⟩
  ·cases ha;have hjl:j<len*k:=by
    rcases Nat.lt_or_ge j (len*k) with h | h
    ·exact h
    ·rw[List.getElem?_eq_none (by rw[flat_len hlen,hl];exact h)] at hu;cases hu
   have hi:j / k<len:=Nat.div_lt_of_lt_mul (by rw[Nat.mul_comm];exact hjl);have hx:L[j / k]?=some (L[j / k]'zo):=List.getElem?_eq_getElem _;have hj:j / k*k+j % k=j:=by rw[Nat.mul_comm];exact Nat.div_add_mod j k
   have h8:=flat_get hlen L (j / k) _ hx (j % k) (Nat.mod_lt _ h0);rw[hj,hu] at h8;have h9:=(hL (j / k) _ hx).1 (j % k) u h8.symm;rwa [hj] at h9
  ·obtain⟨i,hi⟩:=List.getElem?_of_mem hx;exact(hL i x hi).2
def FrIn (W:World) (x:Fr):Prop:=x.l≤9223372036854775807∧x.l'≤9223372036854775807∧∀m,x.l≤m→x.l'≤m→FrOk W m x
theorem fr_in {H:Type} {enc:TypeId×Value→H} {W:World} {b:Nat} {sp:Nat→Bool} {hd:Bool} (fuel:Nat) (cs:List Value) (y:DataW H×List MemPlace) (hl:cs.length=4)
  (hf:DataW.trod enc Tryz.prog W b sp hd fuel 30 cs=some y):∃x:Fr,cs=x.cs∧FrIn W x:=by
 obtain⟨s,A,l,c,s',A',l',c',rfl,hr⟩:=rat_of hf hl;obtain⟨q,hq⟩:=hr.r (m:=max l l') zo zo;obtain⟨ex,hx⟩:=hq.fr;refine⟨⟨s,A,c,l,s',A',c',l',q,ex⟩,rfl,hr.1.2,hr.2.2,fun m h1 h2=>hx.mono (by simp at h1 h2;omega)⟩
def TmIn (W:World) (t:Tm):Prop:=FrIn W t.x∧-9223372036854775808≤t.at_∧t.at_≤9223372036854775807
theorem tm_in {H:Type} {enc:TypeId×Value→H} {W:World} {b:Nat} {sp:Nat→Bool} {hd:Bool} (fuel:Nat) (cs:List Value) (y:DataW H×List MemPlace) (hl:cs.length=5)
  (hf:DataW.trod enc Tryz.prog W b sp hd fuel 32 cs=some y):∃x:Tm,cs=x.cs∧TmIn W x:=by
 have hC0:Tryz.prog.cellsOf 3=1:=by kernel_rfl
 have hC1:Tryz.prog.cellsOf 30=4:=by kernel_rfl
 obtain⟨xs,n,_,_,_,hx,hi⟩:=DataW.trod_struct Tryz.underlying32 hf;match cs,hl with
 | [c0,c1,c2,c3,c4],_ =>
  have g:∀k,k<2→∃z,xs[k]?=some z:=fun k hk=>⟨xs[k]'(by simp at hx;omega),List.getElem?_eq_getElem _⟩;obtain⟨z0,e0⟩:=g 0 zo;obtain⟨z1,e1⟩:=g 1 zo;have h0:=(hi 0 _ rfl).trans e0;have h1:=(hi 1 _ rfl).trans e1;simp[hC0] at h0
  simp[hC1] at h1
  obtain⟨z,ez,_,wz⟩:=DataW.trod_int Tryz.underlying3 h0;obtain⟨x,ex,hx⟩:=fr_in _ _ _ rfl h1;simp at ez
  subst ez;simp[Fr.cs] at ex
  obtain⟨rfl,rfl,rfl,rfl⟩:=ex;exact⟨⟨z,x⟩,rfl,hx,bounds_i64 wz⟩
open Go.ChangeShapes Go.WideShapes Go.ChangeAt Go.RowKit Tw
def VgIn (W:World) (v:Vc):Prop:=v.n≤maxLen∧Sl Tm.cs 5 W v.A v.n v.c v.L∧(∀t∈v.L,TmIn W t)∧(v.A=none→v.c=0)
end Go.Proofs.YtfpbmpllildbaaaGreatDoor
