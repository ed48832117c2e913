import Derived.Test.YtfpbmpllildbaaaGreatDoorYRead
import Derived.Test.YtfpbmpllildbaaaGreatDoorYRow
set_option maxRecDepth 100000
namespace Go.Proofs.YtfpbmpllildbaaaGreatDoor
open Go.ChangeShapes Go.WideShapes Go.ChangeAt Go.RowKit Tw
variable {W:World} {b:Nat} {hd:Bool}
theorem slice_of {H:Type} {enc:TypeId×Value→H} {sp:Nat→Bool} {fuel:Nat} {cs0:List Value} {y:DataW H×List MemPlace} {α:Type} (f:α→List Value) (k:Nat) {ts te:TypeId} (P:α→Prop)
  (hu:Tryz.prog.underlying ts=some (.slice te)) (hC:Tryz.prog.cellsOf te=k) (h0:0<k) (hlen:∀x,(f x).length=k)
  (hel:∀(fuel:Nat) (cs:List Value) (y:DataW H×List MemPlace),cs.length=k→DataW.trod enc Tryz.prog W b sp hd fuel te cs=some y→∃x,cs=f x∧P x)
  (hf:DataW.trod enc Tryz.prog W b sp hd fuel ts cs0=some y):∃A n c L,cs0=[.slice A n c]∧n≤c∧c≤maxLen∧Sl f k W A n c L∧∀x∈L,P x:=by
 rcases Go.Deep.open_slice hu hf with⟨h1,_⟩ | ⟨a,len,cap,m,n,D,Pl,h1,_,h3,h4,h5,_,h7⟩
 ·exact⟨none,0,0,[],h1,cA _,zo,Sl.nil W,by simp⟩
 ·have hm:len≤m:=by rw[h5];split<;>omega
  have key:∀i,i<len→∃x,(∀j c,(f x)[j]?=some c→W.cell? (a.add (i*k+j))=some c)∧P x:=fun i hi=>by
   obtain⟨cs,hc,ht⟩:=h7 i zo;rw[hC] at hc;obtain⟨_,hcl,hat⟩:=World.cells?_some hc;obtain⟨x,rfl,hx⟩:=hel _ _ _ hcl ht;refine⟨x,fun j c hj=>?_,hx⟩;have hjk:j<k:=by
    rcases sB j k with h | h
    ·exact h
    ·rw[dB (by rw[hlen];exact h)] at hj;cases hj
   rw[←Go.Deep.add_add,hat j hjk];exact hj
  have all:∀q,q≤len→∃L:List α,L.length=q∧∀i x,L[i]?=some x→(∀j c,(f x)[j]?=some c→W.cell? (a.add (i*k+j))=some c)∧P x:=fun q=>by
   induction q with
   | zero=>exact fun _=>⟨[],rfl,fun i x hx=>by simp at hx⟩
   | succ q ih =>
    intro hq;obtain⟨L,hl,hL⟩:=ih zo;obtain⟨x,hx⟩:=key q zo;refine⟨L++[x],by simp[hl],fun i z hz=>?_⟩;rcases sB i q with h | h
    ·rw[dF zo] at hz;exact hL i z hz
    ·rw[wD zo] at hz;have hi:i-L.length=0:=by
      rcases aD (i-L.length) with h | h
      ·exact h
      ·rw[dB (by simp;omega)] at hz;cases hz
     rw[hi] at hz;obtain rfl:x=z:=by simpa using hz
     obtain rfl:i=q:=zo;exact hx
  obtain⟨L,hl,hL⟩:=all len (cA _);refine⟨some a,len,cap,L,h1,h3,h4,⟨hl,by rw[flat_len hlen,hl],some a,cap,rfl,(fun h=>(by cases h)),fun ad ha j u hu=>?_⟩,fun x hx=>?_⟩
  ·cases ha;have hjl:j<len*k:=by
    rcases sB j (len*k) with h | h
    ·exact h
    ·rw[dB (by rw[flat_len hlen,hl];exact h)] at hu;cases hu
   have hi:j / k<len:=Nat.div_lt_of_lt_mul (by rw[rB];exact hjl);have hx:L[j / k]?=some (L[j / k]'zo):=aA _;have hj:j / k*k+j % k=j:=by rw[rB];exact fC j k
   have h8:=flat_get hlen L (j / k) _ hx (j % k) (mC _ h0);rw[hj,hu] at h8;have h9:=(hL (j / k) _ hx).1 (j % k) u h8.symm;rwa [hj] at h9
  ·obtain⟨i,hi⟩:=gD hx;exact(hL i x hi).2
def FrIn (W:World) (x:Fr):Prop:=x.l≤9223372036854775807∧x.l'≤9223372036854775807∧∀m,x.l≤m→x.l'≤m→FrOk W m x
theorem fr_in {H:Type} {enc:TypeId×Value→H} {sp:Nat→Bool} (fuel:Nat) (cs:List Value) (y:DataW H×List MemPlace) (hl:cs.length=4)
  (hf:DataW.trod enc Tryz.prog W b sp hd fuel 30 cs=some y):∃x:Fr,cs=x.cs∧FrIn W x:=by
 obtain⟨s,A,l,c,s',A',l',c',rfl,hr⟩:=rat_of hf hl;obtain⟨q,hq⟩:=hr.r (m:=max l l') zo zo;obtain⟨ex,hx⟩:=hq.fr;refine⟨⟨s,A,c,l,s',A',c',l',q,ex⟩,rfl,hr.1.2,hr.2.2,fun m h1 h2=>hx.mono (by simp at h1 h2;omega)⟩
def TmIn (W:World) (t:Tm):Prop:=FrIn W t.x∧-9223372036854775808≤t.at_∧t.at_≤9223372036854775807
theorem tm_in {H:Type} {enc:TypeId×Value→H} {sp:Nat→Bool} (fuel:Nat) (cs:List Value) (y:DataW H×List MemPlace) (hl:cs.length=5)
  (hf:DataW.trod enc Tryz.prog W b sp hd fuel 32 cs=some y):∃x:Tm,cs=x.cs∧TmIn W x:=by
 have hC0:Tryz.prog.cellsOf 3=1:=by kernel_rfl
 have hC1:Tryz.prog.cellsOf 30=4:=by kernel_rfl
 obtain⟨xs,n,_,_,_,hx,hi⟩:=DataW.trod_struct Tryz.underlying32 hf;match cs,hl with
 | [c0,c1,c2,c3,c4],_ =>
  have g:∀k,k<2→∃z,xs[k]?=some z:=fun k hk=>⟨xs[k]'(by simp at hx;omega),aA _⟩;obtain⟨z0,e0⟩:=g 0 zo;obtain⟨z1,e1⟩:=g 1 zo;have h0:=(hi 0 _ rfl).trans e0;have h1:=(hi 1 _ rfl).trans e1;simp[hC0] at h0
  simp[hC1] at h1
  obtain⟨z,ez,_,wz⟩:=DataW.trod_int Tryz.underlying3 h0;obtain⟨x,ex,hx⟩:=fr_in _ _ _ rfl h1;simp at ez
  subst ez;simp[Fr.cs] at ex
  obtain⟨rfl,rfl,rfl,rfl⟩:=ex;exact⟨⟨z,x⟩,rfl,hx,bounds_i64 wz⟩
theorem cap_none {H:Type} {enc:TypeId×Value→H} {sp:Nat→Bool} {fuel:Nat} {t te:TypeId} {A:Option Addr} {n c:Nat} {y:DataW H×List MemPlace} (hu:Tryz.prog.underlying t=some (.slice te))
  (hf:DataW.trod enc Tryz.prog W b sp hd fuel t [.slice A n c]=some y):A=none→c=0:=by
 intro e0;subst e0;obtain⟨d,p⟩:=y;rcases Go.Deep.open_slice hu hf with⟨k1,_⟩ | ⟨a,len,cap,m,k,D,Pl,k1,_⟩
 ·simp at k1;exact k1.2
 ·simp at k1
def VgIn (W:World) (v:Vc):Prop:=v.n≤maxLen∧Sl Tm.cs 5 W v.A v.n v.c v.L∧(∀t∈v.L,TmIn W t)∧(v.A=none→v.c=0)
theorem vg_in {H:Type} {enc:TypeId×Value→H} {sp:Nat→Bool} (fuel:Nat) (cs:List Value) (y:DataW H×List MemPlace) (_:cs.length=1)
  (hf:DataW.trod enc Tryz.prog W b sp hd fuel 35 cs=some y):∃x:Vc,cs=x.cs∧VgIn W x:=by
 obtain⟨A,n,c,L,rfl,h1,h2,h3,h4⟩:=slice_of Tm.cs 5 (TmIn W) Tryz.underlying35 (by kernel_rfl) zo Tm.cs_len tm_in hf;exact⟨⟨A,n,c,L⟩,rfl,(show n≤maxLen by omega),h3,h4,cap_none Tryz.underlying35 hf⟩
def CsIn (W:World) (v:Value):Prop:=∃(A:Option Addr) (n c:Nat) (L:List Vc),v=.slice A n c∧Sl Vc.cs 1 W A n c L∧(∀x∈L,VgIn W x)∧n≤9223372036854775807
theorem cs_of {H:Type} {enc:TypeId×Value→H} {sp:Nat→Bool} {v:Value} {d:DataW H} {p:List MemPlace}
  (h:DataW.Trod enc Tryz.prog W b sp hd 36 v d p) (hv:∃A n c,v=.slice A n c):CsIn W v:=by
 obtain⟨A,n,c,rfl⟩:=hv;obtain⟨fuel,hf⟩:=h;have hf2:DataW.trod enc Tryz.prog W b sp hd fuel 36 [.slice A n c]=some (d,p):=by simpa [Value.cells] using hf
 obtain⟨A',n',c',L,e,h1,h2,h3,h4⟩:=slice_of Vc.cs 1 (VgIn W) Tryz.underlying36 (by kernel_rfl) zo Vc.cs_len vg_in hf2;simp only[List.cons.injEq,Value.slice.injEq,and_true] at e
 obtain⟨rfl,rfl,rfl⟩:=e;exact⟨A,n,c,L,rfl,h3,h4,by unfold maxLen at h2;omega⟩
end Go.Proofs.YtfpbmpllildbaaaGreatDoor
