import Derived.Test.YtiondclbdgijbaaGreatDoorYRead
import Derived.Test.YtiondclbdgijbaaGreatDoorYRow
set_option maxRecDepth 100000
namespace Go.Proofs.YtiondclbdgijbaaGreatDoor
open Go.ChangeShapes Go.WideShapes Go.ChangeAt Go.RowKit Tw
variable {W:World} {b:Nat} {hd:Bool}
theorem slice_of {H:Type} {enc:TypeId×Value→H} {sp:Nat→Bool} {fuel:Nat} {cs0:List Value} {y:DataW H×List MemPlace} {α:Type} (f:α→List Value) (k:Nat) {ts te:TypeId} (P:α→Prop)
  (hu:Tryz.prog.underlying ts=some (.slice te)) (hC:Tryz.prog.cellsOf te=k) (h0:0<k) (hlen:∀x,(f x).length=k)
  (hel:∀(fuel:Nat) (cs:List Value) (y:DataW H×List MemPlace),cs.length=k→DataW.trod enc Tryz.prog W b sp hd fuel te cs=some y→∃x,cs=f x∧P x)
  (hf:DataW.trod enc Tryz.prog W b sp hd fuel ts cs0=some y):∃A n c L,cs0=[.slice A n c]∧n≤c∧c≤maxLen∧Sl f k W A n c L∧∀x∈L,P x:=by
 rcases Go.Deep.open_slice hu hf with⟨h1,_⟩ | ⟨a,len,cap,m,n,D,Pl,h1,_,h3,h4,h5,_,h7⟩
 ·exact⟨none,0,0,[],h1,aA _,zo,Sl.nil W,by simp⟩
 ·have hm:len≤m:=by rw[h5];split<;>omega
  have key:∀i,i<len→∃x,(∀j c,(f x)[j]?=some c→W.cell? (a.add (i*k+j))=some c)∧P x:=fun i hi=>by
   obtain⟨cs,hc,ht⟩:=h7 i zo;rw[hC] at hc;obtain⟨_,hcl,hat⟩:=World.cells?_some hc;obtain⟨x,rfl,hx⟩:=hel _ _ _ hcl ht;refine⟨x,fun j c hj=>?_,hx⟩;have hjk:j<k:=by
    rcases eB j k with h | h
    ·exact h
    ·rw[cB (by rw[hlen];exact h)] at hj;cases hj
   rw[←Go.Deep.add_add,hat j hjk];exact hj
  have all:∀q,q≤len→∃L:List α,L.length=q∧∀i x,L[i]?=some x→(∀j c,(f x)[j]?=some c→W.cell? (a.add (i*k+j))=some c)∧P x:=fun q=>by
   induction q with
   | zero=>exact fun _=>⟨[],rfl,fun i x hx=>by simp at hx⟩
   | succ q ih =>
    intro hq;obtain⟨L,hl,hL⟩:=ih zo;obtain⟨x,hx⟩:=key q zo;refine⟨L++[x],by simp[hl],fun i z hz=>?_⟩;rcases eB i q with h | h
    ·rw[bF zo] at hz;exact hL i z hz
    ·rw[kD zo] at hz;have hi:i-L.length=0:=by
      rcases qC (i-L.length) with h | h
      ·exact h
      ·rw[cB (by simp;omega)] at hz;cases hz
     rw[hi] at hz;obtain rfl:x=z:=by simpa using hz
     obtain rfl:i=q:=zo;exact hx
  obtain⟨L,hl,hL⟩:=all len (aA _);refine⟨some a,len,cap,L,h1,h3,h4,⟨hl,by rw[flat_len hlen,hl],some a,cap,rfl,(fun h=>(by cases h)),fun ad ha j u hu=>?_⟩,fun x hx=>?_⟩
  ·cases ha;have hjl:j<len*k:=by
    rcases eB j (len*k) with h | h
    ·exact h
    ·rw[cB (by rw[flat_len hlen,hl];exact h)] at hu;cases hu
   have hi:j / k<len:=Nat.div_lt_of_lt_mul (by rw[qB];exact hjl);have hx:L[j / k]?=some (L[j / k]'zo):=cA _;have hj:j / k*k+j % k=j:=by rw[qB];exact bC j k
   have h8:=flat_get hlen L (j / k) _ hx (j % k) (fC _ h0);rw[hj,hu] at h8;have h9:=(hL (j / k) _ hx).1 (j % k) u h8.symm;rwa [hj] at h9
  ·obtain⟨i,hi⟩:=nE hx;exact(hL i x hi).2
def FrIn (W:World) (x:Fr):Prop:=x.l≤9223372036854775807∧x.l'≤9223372036854775807∧∀m,x.l≤m→x.l'≤m→FrOk W m x
theorem fr_in {H:Type} {enc:TypeId×Value→H} {sp:Nat→Bool} (fuel:Nat) (cs:List Value) (y:DataW H×List MemPlace) (hl:cs.length=4)
  (hf:DataW.trod enc Tryz.prog W b sp hd fuel 47 cs=some y):∃x:Fr,cs=x.cs∧FrIn W x:=by
 obtain⟨s,A,l,c,s',A',l',c',rfl,hr⟩:=rat_of hf hl;obtain⟨q,hq⟩:=hr.r (m:=max l l') zo zo;obtain⟨ex,hx⟩:=hq.fr;refine⟨⟨s,A,c,l,s',A',c',l',q,ex⟩,rfl,hr.1.2,hr.2.2,fun m h1 h2=>hx.mono (by simp at h1 h2;omega)⟩
theorem frs_of {H:Type} {enc:TypeId×Value→H} {sp:Nat→Bool} {fuel:Nat} {cs:List Value} {y:DataW H×List MemPlace}
  (hf:DataW.trod enc Tryz.prog W b sp hd fuel 25 cs=some y):∃A n c L,cs=[.slice A n c]∧n≤c∧c≤maxLen∧Sl Fr.cs 4 W A n c L∧∀x∈L,FrIn W x :=
 slice_of Fr.cs 4 (FrIn W) Tryz.underlying25 (by kernel_rfl) zo Fr.cs_len fr_in hf
def TmIn (W:World) (t:Tm):Prop:=FrIn W t.x∧-9223372036854775808≤t.at_∧t.at_≤9223372036854775807
theorem tm_in {H:Type} {enc:TypeId×Value→H} {sp:Nat→Bool} (fuel:Nat) (cs:List Value) (y:DataW H×List MemPlace) (hl:cs.length=5)
  (hf:DataW.trod enc Tryz.prog W b sp hd fuel 60 cs=some y):∃x:Tm,cs=x.cs∧TmIn W x:=by
 have hC0:Tryz.prog.cellsOf 3=1:=by kernel_rfl
 have hC1:Tryz.prog.cellsOf 47=4:=by kernel_rfl
 obtain⟨xs,n,_,_,_,hx,hi⟩:=DataW.trod_struct Tryz.underlying60 hf;match cs,hl with
 | [c0,c1,c2,c3,c4],_ =>
  have g:∀k,k<2→∃z,xs[k]?=some z:=fun k hk=>⟨xs[k]'(by simp at hx;omega),cA _⟩;obtain⟨z0,e0⟩:=g 0 zo;obtain⟨z1,e1⟩:=g 1 zo;have h0:=(hi 0 _ rfl).trans e0;have h1:=(hi 1 _ rfl).trans e1;simp[hC0] at h0
  simp[hC1] at h1
  obtain⟨z,ez,_,wz⟩:=DataW.trod_int Tryz.underlying3 h0;obtain⟨x,ex,hx⟩:=fr_in _ _ _ rfl h1;simp at ez
  subst ez;simp[Fr.cs] at ex
  obtain⟨rfl,rfl,rfl,rfl⟩:=ex;exact⟨⟨z,x⟩,rfl,hx,bounds_i64 wz⟩
def I64 (z:Int):Prop:=-9223372036854775808≤z∧z≤9223372036854775807
theorem i_in {H:Type} {enc:TypeId×Value→H} {sp:Nat→Bool} (fuel:Nat) (cs:List Value) (y:DataW H×List MemPlace) (_:cs.length=1)
  (hf:DataW.trod enc Tryz.prog W b sp hd fuel 3 cs=some y):∃z:Int,cs=ics z∧I64 z:=by
 obtain⟨z,ez,_,wz⟩:=DataW.trod_int Tryz.underlying3 hf;exact⟨z,ez,bounds_i64 wz⟩
theorem is_of {H:Type} {enc:TypeId×Value→H} {sp:Nat→Bool} {fuel:Nat} {cs:List Value} {y:DataW H×List MemPlace}
  (hf:DataW.trod enc Tryz.prog W b sp hd fuel 27 cs=some y):∃A n c L,cs=[.slice A n c]∧n≤c∧c≤maxLen∧Sl ics 1 W A n c L∧∀x∈L,I64 x :=
 slice_of ics 1 I64 Tryz.underlying27 (by kernel_rfl) zo ics_len i_in hf
theorem cap_none {H:Type} {enc:TypeId×Value→H} {sp:Nat→Bool} {fuel:Nat} {t te:TypeId} {A:Option Addr} {n c:Nat} {y:DataW H×List MemPlace} (hu:Tryz.prog.underlying t=some (.slice te))
  (hf:DataW.trod enc Tryz.prog W b sp hd fuel t [.slice A n c]=some y):A=none→c=0:=by
 intro e0;subst e0;obtain⟨d,p⟩:=y;rcases Go.Deep.open_slice hu hf with⟨k1,_⟩ | ⟨a,len,cap,m,k,D,Pl,k1,_⟩
 ·simp at k1;exact k1.2
 ·simp at k1
def VcIn (W:World) (v:Vc):Prop:=v.n≤maxLen∧Sl Tm.cs 5 W v.A v.n v.c v.L∧(∀t∈v.L,TmIn W t)∧(v.A=none→v.c=0)
theorem vc_in {H:Type} {enc:TypeId×Value→H} {sp:Nat→Bool} (fuel:Nat) (cs:List Value) (y:DataW H×List MemPlace) (_:cs.length=1)
  (hf:DataW.trod enc Tryz.prog W b sp hd fuel 57 cs=some y):∃x:Vc,cs=x.cs∧VcIn W x:=by
 obtain⟨A,n,c,L,rfl,h1,h2,h3,h4⟩:=slice_of Tm.cs 5 (TmIn W) Tryz.underlying57 (by kernel_rfl) zo Tm.cs_len tm_in hf;exact⟨⟨A,n,c,L⟩,rfl,(show n≤maxLen by omega),h3,h4,cap_none Tryz.underlying57 hf⟩
theorem vcs_of {H:Type} {enc:TypeId×Value→H} {sp:Nat→Bool} {fuel:Nat} {cs:List Value} {y:DataW H×List MemPlace}
  (hf:DataW.trod enc Tryz.prog W b sp hd fuel 52 cs=some y):∃A n c L,cs=[.slice A n c]∧n≤c∧c≤maxLen∧Sl Vc.cs 1 W A n c L∧∀x∈L,VcIn W x :=
 slice_of Vc.cs 1 (VcIn W) Tryz.underlying52 (by kernel_rfl) zo Vc.cs_len vc_in hf
def GpIn (W:World) (v:Gp):Prop:=v.n≤maxLen∧Sl ics 1 W v.A v.n v.c v.L∧∀t∈v.L,I64 t
theorem gp_in {H:Type} {enc:TypeId×Value→H} {sp:Nat→Bool} (fuel:Nat) (cs:List Value) (y:DataW H×List MemPlace) (_:cs.length=1)
  (hf:DataW.trod enc Tryz.prog W b sp hd fuel 27 cs=some y):∃x:Gp,cs=x.cs∧GpIn W x:=by
 obtain⟨A,n,c,L,rfl,h1,h2,h3,h4⟩:=is_of hf;exact⟨⟨A,n,c,L⟩,rfl,(show n≤maxLen by omega),h3,h4⟩
theorem gps_of {H:Type} {enc:TypeId×Value→H} {sp:Nat→Bool} {fuel:Nat} {cs:List Value} {y:DataW H×List MemPlace}
  (hf:DataW.trod enc Tryz.prog W b sp hd fuel 53 cs=some y):∃A n c L,cs=[.slice A n c]∧n≤c∧c≤maxLen∧Sl Gp.cs 1 W A n c L∧∀x∈L,GpIn W x :=
 slice_of Gp.cs 1 (GpIn W) Tryz.underlying53 (by kernel_rfl) zo Gp.cs_len gp_in hf
structure LyIn (W:World) (y:Ly):Prop where
 rows:Sl Vc.cs 1 W y.rA y.rn y.rc y.rows
 rok:∀v∈y.rows,VcIn W v
 bias:Sl Fr.cs 4 W y.bA y.bn y.bc y.bias
 bok:∀x∈y.bias,FrIn W x
 kern:Sl Fr.cs 4 W y.kA y.kn y.kc y.kern
 kok:∀x∈y.kern,FrIn W x
 groups:Sl Gp.cs 1 W y.gA y.gn y.gc y.groups
 gok:∀v∈y.groups,GpIn W v
 ints:I64 y.ch∧I64 y.high∧I64 y.wide∧I64 y.out∧I64 y.kh∧I64 y.kw∧I64 y.st∧I64 y.pad
 kind:0≤y.kind∧y.kind≤255
 lens:y.rn≤maxLen∧y.bn≤maxLen∧y.kn≤maxLen∧y.gn≤maxLen
theorem ly_in {H:Type} {enc:TypeId×Value→H} {sp:Nat→Bool} (fuel:Nat) (cs:List Value) (y:DataW H×List MemPlace) (hl:cs.length=13)
  (hf:DataW.trod enc Tryz.prog W b sp hd fuel 55 cs=some y):∃x:Ly,cs=x.cs∧LyIn W x:=by
 have hC0:Tryz.prog.cellsOf 3=1:=by kernel_rfl
 have hC1:Tryz.prog.cellsOf 51=1:=by kernel_rfl
 have hC2:Tryz.prog.cellsOf 52=1:=by kernel_rfl
 have hC3:Tryz.prog.cellsOf 25=1:=by kernel_rfl
 have hC4:Tryz.prog.cellsOf 53=1:=by kernel_rfl
 obtain⟨xs,n,_,_,_,hx,hi⟩:=DataW.trod_struct Tryz.underlying55 hf;match cs,hl with
 | [c0,c1,c2,c3,c4,c5,c6,c7,c8,c9,c10,c11,c12],_ =>
  have g:∀k,k<13→∃z,xs[k]?=some z:=fun k hk=>⟨xs[k]'(by simp at hx;omega),cA _⟩;obtain⟨z0,e0⟩:=g 0 zo;have h0:=(hi 0 _ rfl).trans e0;simp[hC1] at h0
  obtain⟨z1,e1⟩:=g 1 zo;have h1:=(hi 1 _ rfl).trans e1;simp[hC2] at h1
  obtain⟨z2,e2⟩:=g 2 zo;have h2:=(hi 2 _ rfl).trans e2;simp[hC3] at h2
  obtain⟨z3,e3⟩:=g 3 zo;have h3:=(hi 3 _ rfl).trans e3;simp[hC0] at h3
  obtain⟨z4,e4⟩:=g 4 zo;have h4:=(hi 4 _ rfl).trans e4;simp[hC0] at h4
  obtain⟨z5,e5⟩:=g 5 zo;have h5:=(hi 5 _ rfl).trans e5;simp[hC0] at h5
  obtain⟨z6,e6⟩:=g 6 zo;have h6:=(hi 6 _ rfl).trans e6;simp[hC0] at h6
  obtain⟨z7,e7⟩:=g 7 zo;have h7:=(hi 7 _ rfl).trans e7;simp[hC0] at h7
  obtain⟨z8,e8⟩:=g 8 zo;have h8:=(hi 8 _ rfl).trans e8;simp[hC0] at h8
  obtain⟨z9,e9⟩:=g 9 zo;have h9:=(hi 9 _ rfl).trans e9;simp[hC0] at h9
  obtain⟨z10,e10⟩:=g 10 zo;have h10:=(hi 10 _ rfl).trans e10;simp[hC0] at h10
  obtain⟨z11,e11⟩:=g 11 zo;have h11:=(hi 11 _ rfl).trans e11;simp[hC3] at h11
  obtain⟨z12,e12⟩:=g 12 zo;have h12:=(hi 12 _ rfl).trans e12;simp[hC4] at h12
  obtain⟨kd,ek,_,wk⟩:=DataW.trod_int Tryz.underlying51 h0;obtain⟨rA,rn,rc,rows,er,r1,r2,r3,r4⟩:=vcs_of h1;obtain⟨bA,bn,bc,bias,eb,b1,b2,b3,b4⟩:=frs_of h2;obtain⟨i0,ei0,_,w0⟩:=DataW.trod_int Tryz.underlying3 h3;obtain⟨i1,ei1,_,w1⟩:=DataW.trod_int Tryz.underlying3 h4;obtain⟨i2,ei2,_,w2⟩:=DataW.trod_int Tryz.underlying3 h5;obtain⟨i3,ei3,_,w3⟩:=DataW.trod_int Tryz.underlying3 h6;obtain⟨i4,ei4,_,w4⟩:=DataW.trod_int Tryz.underlying3 h7;obtain⟨i5,ei5,_,w5⟩:=DataW.trod_int Tryz.underlying3 h8;obtain⟨i6,ei6,_,w6⟩:=DataW.trod_int Tryz.underlying3 h9;obtain⟨i7,ei7,_,w7⟩:=DataW.trod_int Tryz.underlying3 h10;obtain⟨kA,kn,kc,kern,ekk,k1,k2,k3,k4⟩:=frs_of h11;obtain⟨gA,gn,gc,groups,eg,g1,g2,g3,g4⟩:=gps_of h12;simp only[List.cons.injEq,and_true] at ek er eb ei0 ei1 ei2 ei3 ei4 ei5 ei6 ei7 ekk eg
  subst ek er eb ei0 ei1 ei2 ei3 ei4 ei5 ei6 ei7 ekk eg;exact⟨⟨kd,rA,rn,rc,rows,bA,bn,bc,bias,i0,i1,i2,i3,i4,i5,i6,i7,kA,kn,kc,kern,gA,gn,gc,groups⟩,rfl,⟨r3,r4,b3,b4,k3,k4,g3,g4,⟨bounds_i64 w0,bounds_i64 w1,bounds_i64 w2,bounds_i64 w3,bounds_i64 w4,bounds_i64 w5,bounds_i64 w6,bounds_i64 w7⟩,bounds_u8 wk,⟨by simp;omega,by simp;omega,by simp;omega,by simp;omega⟩⟩⟩
theorem lys_of {H:Type} {enc:TypeId×Value→H} {sp:Nat→Bool} {fuel:Nat} {cs:List Value} {y:DataW H×List MemPlace}
  (hf:DataW.trod enc Tryz.prog W b sp hd fuel 22 cs=some y):∃A n c L,cs=[.slice A n c]∧n≤c∧c≤maxLen∧Sl Ly.cs 13 W A n c L∧∀x∈L,LyIn W x :=
 slice_of Ly.cs 13 (LyIn W) Tryz.underlying22 (by kernel_rfl) zo Ly.cs_len ly_in hf
def NtIn (W:World) (v:Value):Prop:=∃(inp:Int) (A:Option Addr) (n c:Nat) (L:List Ly),v=.agg #[.int .i64 inp,.slice A n c]∧I64 inp∧n≤c∧c≤maxLen∧Sl Ly.cs 13 W A n c L∧∀y∈L,LyIn W y
theorem net_of {H:Type} {enc:TypeId×Value→H} {sp:Nat→Bool} {v:Value} {d:DataW H} {p:List MemPlace}
  (h:DataW.Trod enc Tryz.prog W b sp hd 24 v d p) (hv:∃cs,v=.agg cs):NtIn W v:=by
 obtain⟨cs,rfl⟩:=hv;obtain⟨fuel,hf⟩:=h;obtain⟨y0,y1,n,hx,hl,h0,h1⟩:=trod_struct2 Tryz.underlying24 hf;have hC:Tryz.prog.cellsOf 24=2:=by kernel_rfl
 have hC0:Tryz.prog.cellsOf 3=1:=by kernel_rfl
 have hC1:Tryz.prog.cellsOf 22=1:=by kernel_rfl
 have hl':cs.size=2:=by rw[←hC,←hl];simp[Value.cells]
 obtain⟨c0,c1,rfl⟩:=Joins.array2 hl';simp[Value.cells,hC0] at h0
 simp[Value.cells,hC1] at h1
 obtain⟨z,ez,_,wz⟩:=DataW.trod_int Tryz.underlying3 h0;obtain⟨A,l,c,L,el,l1,l2,l3,l4⟩:=lys_of h1;simp only[List.cons.injEq,and_true] at ez el
 subst ez el;exact⟨z,A,l,c,L,rfl,bounds_i64 wz,l1,l2,l3,l4⟩
theorem aggNet_of {r:Reach} {v:Value} (h:Value.okWide Tryz.prog W r b 24 v):∃cs,v=.agg cs:=by
 obtain⟨cs,rfl,_⟩:=okWide_struct Tryz.underlying24 h;exact⟨cs,rfl⟩
def smallLy (units digits:Int) (y:Ly):Bool:=shortVcs units units digits y.rn y.rows&&(shortFrs units digits y.bn y.bias&&(shortFrs (4*units) digits y.kn y.kern&&(decide ((y.gn:Int)≤units)&&(decide (y.out≤units)&&(decide (y.ch≤units)&&(decide (y.high≤units)&&(decide (y.wide≤units)&&(y.groups.all (fun v=>decide ((v.n:Int)≤units))))))))))
theorem FrIn.len {x:Fr} (h:FrIn W x):x.l≤9223372036854775807∧x.l'≤9223372036854775807:=⟨h.1,h.2.1⟩
end Go.Proofs.YtiondclbdgijbaaGreatDoor
