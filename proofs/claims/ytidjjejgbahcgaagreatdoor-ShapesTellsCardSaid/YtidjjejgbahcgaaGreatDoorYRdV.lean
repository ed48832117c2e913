/-
  From a row's own readings to the walks: slices of anything that came in; fractions, terms, whole numbers.
-/
import Derived.Test.YtidjjejgbahcgaaGreatDoorYRead
import Derived.Test.YtidjjejgbahcgaaGreatDoorYRow
set_option maxHeartbeats 4000000
set_option maxRecDepth 100000
namespace Go.Proofs.YtidjjejgbahcgaaGreatDoor
open Go.ChangeShapes Go.WideShapes Go.ChangeAt Go.RowKit Tw
theorem slice_of {H:Type} {enc:TypeId×Value→H} {W:World} {b:Nat} {sp:Nat→Bool} {hd:Bool} {fuel:Nat} {cs0:List Value} {y:DataW H×List MemPlace} {α:Type} (f:α→List Value) (k:Nat) {ts te:TypeId} (P:α→Prop)
  (hu:Tryz.prog.underlying ts=some (.slice te)) (hC:Tryz.prog.cellsOf te=k) (h0:0<k) (hlen:∀x,(f x).length=k)
  (hel:∀(fuel:Nat) (cs:List Value) (y:DataW H×List MemPlace),cs.length=k→DataW.trod enc Tryz.prog W b sp hd fuel te cs=some y→∃x,cs=f x∧P x)
  (hf:DataW.trod enc Tryz.prog W b sp hd fuel ts cs0=some y):∃A n c L,cs0=[.slice A n c]∧n≤c∧c≤maxLen∧Sl f k W A n c L∧∀x∈L,P x:=by
 rcases Go.Deep.open_slice hu hf with⟨h1,_⟩ | ⟨a,len,cap,m,n,D,Pl,h1,_,h3,h4,h5,_,h7⟩
 ·exact⟨none,0,0,[],h1,Nat.le_refl _,zo,Sl.nil W,by simp⟩
 ·have hm:len≤m:=by rw[h5];split<;>omega
  have key:∀i,i<len→∃x,(∀j c,(f x)[j]?=some c→W.cell? (a.add (i*k+j))=some c)∧P x:=fun i hi=>by
   obtain⟨cs,hc,ht⟩:=h7 i zo;rw[hC] at hc;obtain⟨_,hcl,hat⟩:=World.cells?_some hc;obtain⟨x,rfl,hx⟩:=hel _ _ _ hcl ht;refine⟨x,fun j c hj=>?_,hx⟩;have hjk:j<k:=by
    rcases Nat.lt_or_ge j k with h | h
    ·exact h
    ·rw[List.getElem?_eq_none (by rw[hlen];exact h)] at hj;cases hj
   rw[←Go.Deep.add_add,hat j hjk];exact hj
  have all:∀q,q≤len→∃L:List α,L.length=q∧∀i x,L[i]?=some x→(∀j c,(f x)[j]?=some c→W.cell? (a.add (i*k+j))=some c)∧P x:=fun q=>by
   induction q with
   | zero=>exact fun _=>⟨[],rfl,fun i x hx=>by simp at hx⟩
   | succ q ih =>
    intro hq;obtain⟨L,hl,hL⟩:=ih zo;obtain⟨x,hx⟩:=key q zo;refine⟨L++[x],by simp[hl],fun i z hz=>?_⟩;rcases Nat.lt_or_ge i q with h | h
    ·rw[List.getElem?_append_left zo] at hz;exact hL i z hz
    ·rw[List.getElem?_append_right zo] at hz;have hi:i-L.length=0:=by
      rcases Nat.eq_zero_or_pos (i-L.length) with h | h
      ·exact h
      ·rw[List.getElem?_eq_none (by simp;omega)] at hz;cases hz
     rw[hi] at hz;obtain rfl:x=z:=by simpa using hz
     obtain rfl:i=q:=zo;exact hx
  obtain⟨L,hl,hL⟩:=all len (Nat.le_refl _);refine⟨some a,len,cap,L,h1,h3,h4,⟨hl,by rw[flat_len hlen,hl],some a,cap,rfl,(fun h=>(by cases h)),fun ad ha j u hu=>?_⟩,fun x hx=>?_⟩
  ·cases ha;have hjl:j<len*k:=by
    rcases Nat.lt_or_ge j (len*k) with h | h
    ·exact h
    ·rw[List.getElem?_eq_none (by rw[flat_len hlen,hl];exact h)] at hu;cases hu
   have hi:j / k<len:=Nat.div_lt_of_lt_mul (by rw[Nat.mul_comm];exact hjl);have hx:L[j / k]?=some (L[j / k]'zo):=List.getElem?_eq_getElem _;have hj:j / k*k+j % k=j:=by rw[Nat.mul_comm];exact Nat.div_add_mod j k
   have h8:=flat_get hlen L (j / k) _ hx (j % k) (Nat.mod_lt _ h0);rw[hj,hu] at h8;have h9:=(hL (j / k) _ hx).1 (j % k) u h8.symm;rwa [hj] at h9
  ·obtain⟨i,hi⟩:=List.getElem?_of_mem hx;exact(hL i x hi).2
def FrIn (W:World) (x:Fr):Prop:=x.l≤9223372036854775807∧x.l'≤9223372036854775807∧∀m,x.l≤m→x.l'≤m→FrOk W m x
theorem fr_in {H:Type} {enc:TypeId×Value→H} {W:World} {b:Nat} {sp:Nat→Bool} {hd:Bool} (fuel:Nat) (cs:List Value) (y:DataW H×List MemPlace) (hl:cs.length=4)
  (hf:DataW.trod enc Tryz.prog W b sp hd fuel 65 cs=some y):∃x:Fr,cs=x.cs∧FrIn W x:=by
 obtain⟨s,A,l,c,s',A',l',c',rfl,hr⟩:=rat_of hf hl;obtain⟨q,hq⟩:=hr.r (m:=max l l') zo zo;obtain⟨ex,hx⟩:=hq.fr;refine⟨⟨s,A,c,l,s',A',c',l',q,ex⟩,rfl,hr.1.2,hr.2.2,fun m h1 h2=>hx.mono (by simp at h1 h2;omega)⟩
theorem frs_of {H:Type} {enc:TypeId×Value→H} {W:World} {b:Nat} {sp:Nat→Bool} {hd:Bool} {fuel:Nat} {cs:List Value} {y:DataW H×List MemPlace}
  (hf:DataW.trod enc Tryz.prog W b sp hd fuel 25 cs=some y):∃A n c L,cs=[.slice A n c]∧n≤c∧c≤maxLen∧Sl Fr.cs 4 W A n c L∧∀x∈L,FrIn W x :=
 slice_of Fr.cs 4 (FrIn W) Tryz.underlying25 (by kernel_rfl) zo Fr.cs_len fr_in hf
def TmIn (W:World) (t:Tm):Prop:=FrIn W t.x∧-9223372036854775808≤t.at_∧t.at_≤9223372036854775807
theorem tm_in {H:Type} {enc:TypeId×Value→H} {W:World} {b:Nat} {sp:Nat→Bool} {hd:Bool} (fuel:Nat) (cs:List Value) (y:DataW H×List MemPlace) (hl:cs.length=5)
  (hf:DataW.trod enc Tryz.prog W b sp hd fuel 79 cs=some y):∃x:Tm,cs=x.cs∧TmIn W x:=by
 have hC0:Tryz.prog.cellsOf 3=1:=by kernel_rfl
 have hC1:Tryz.prog.cellsOf 65=4:=by kernel_rfl
 obtain⟨xs,n,_,_,_,hx,hi⟩:=DataW.trod_struct Tryz.underlying79 hf;match cs,hl with
 | [c0,c1,c2,c3,c4],_ =>
  have g:∀k,k<2→∃z,xs[k]?=some z:=fun k hk=>⟨xs[k]'(by simp at hx;omega),List.getElem?_eq_getElem _⟩;obtain⟨z0,e0⟩:=g 0 zo;obtain⟨z1,e1⟩:=g 1 zo;have h0:=(hi 0 _ rfl).trans e0;have h1:=(hi 1 _ rfl).trans e1;simp[hC0] at h0
  simp[hC1] at h1
  obtain⟨z,ez,_,wz⟩:=DataW.trod_int Tryz.underlying3 h0;obtain⟨x,ex,hx⟩:=fr_in _ _ _ rfl h1;simp at ez
  subst ez;simp[Fr.cs] at ex
  obtain⟨rfl,rfl,rfl,rfl⟩:=ex;exact⟨⟨z,x⟩,rfl,hx,bounds_i64 wz⟩
def I64 (z:Int):Prop:=-9223372036854775808≤z∧z≤9223372036854775807
theorem i_in {H:Type} {enc:TypeId×Value→H} {W:World} {b:Nat} {sp:Nat→Bool} {hd:Bool} (fuel:Nat) (cs:List Value) (y:DataW H×List MemPlace) (_:cs.length=1)
  (hf:DataW.trod enc Tryz.prog W b sp hd fuel 3 cs=some y):∃z:Int,cs=ics z∧I64 z:=by
 obtain⟨z,ez,_,wz⟩:=DataW.trod_int Tryz.underlying3 hf;exact⟨z,ez,bounds_i64 wz⟩
theorem is_of {H:Type} {enc:TypeId×Value→H} {W:World} {b:Nat} {sp:Nat→Bool} {hd:Bool} {fuel:Nat} {cs:List Value} {y:DataW H×List MemPlace}
  (hf:DataW.trod enc Tryz.prog W b sp hd fuel 34 cs=some y):∃A n c L,cs=[.slice A n c]∧n≤c∧c≤maxLen∧Sl ics 1 W A n c L∧∀x∈L,I64 x :=
 slice_of ics 1 I64 Tryz.underlying34 (by kernel_rfl) zo ics_len i_in hf
theorem cap_none {H:Type} {enc:TypeId×Value→H} {W:World} {b:Nat} {sp:Nat→Bool} {hd:Bool} {fuel:Nat} {t te:TypeId} {A:Option Addr} {n c:Nat} {y:DataW H×List MemPlace} (hu:Tryz.prog.underlying t=some (.slice te))
  (hf:DataW.trod enc Tryz.prog W b sp hd fuel t [.slice A n c]=some y):A=none→c=0:=by
 intro e0;subst e0;obtain⟨d,p⟩:=y;rcases Go.Deep.open_slice hu hf with⟨k1,_⟩ | ⟨a,len,cap,m,k,D,Pl,k1,_⟩
 ·simp at k1;exact k1.2
 ·simp at k1
open Go.ChangeShapes Go.WideShapes Go.ChangeAt Go.RowKit Tw
def VcIn (W:World) (v:Vc):Prop:=v.n≤maxLen∧Sl Tm.cs 5 W v.A v.n v.c v.L∧(∀t∈v.L,TmIn W t)∧(v.A=none→v.c=0)
theorem vc_in {H:Type} {enc:TypeId×Value→H} {W:World} {b:Nat} {sp:Nat→Bool} {hd:Bool} (fuel:Nat) (cs:List Value) (y:DataW H×List MemPlace) (_:cs.length=1)
  (hf:DataW.trod enc Tryz.prog W b sp hd fuel 75 cs=some y):∃x:Vc,cs=x.cs∧VcIn W x:=by
 obtain⟨A,n,c,L,rfl,h1,h2,h3,h4⟩:=slice_of Tm.cs 5 (TmIn W) Tryz.underlying75 (by kernel_rfl) zo Tm.cs_len tm_in hf;exact⟨⟨A,n,c,L⟩,rfl,(show n≤maxLen by omega),h3,h4,cap_none Tryz.underlying75 hf⟩
theorem vcs_of {H:Type} {enc:TypeId×Value→H} {W:World} {b:Nat} {sp:Nat→Bool} {hd:Bool} {fuel:Nat} {cs:List Value} {y:DataW H×List MemPlace}
  (hf:DataW.trod enc Tryz.prog W b sp hd fuel 46 cs=some y):∃A n c L,cs=[.slice A n c]∧n≤c∧c≤maxLen∧Sl Vc.cs 1 W A n c L∧∀x∈L,VcIn W x :=
 slice_of Vc.cs 1 (VcIn W) Tryz.underlying46 (by kernel_rfl) zo Vc.cs_len vc_in hf
def GpIn (W:World) (v:Gp):Prop:=v.n≤maxLen∧Sl ics 1 W v.A v.n v.c v.L∧∀t∈v.L,I64 t
theorem gp_in {H:Type} {enc:TypeId×Value→H} {W:World} {b:Nat} {sp:Nat→Bool} {hd:Bool} (fuel:Nat) (cs:List Value) (y:DataW H×List MemPlace) (_:cs.length=1)
  (hf:DataW.trod enc Tryz.prog W b sp hd fuel 34 cs=some y):∃x:Gp,cs=x.cs∧GpIn W x:=by
 obtain⟨A,n,c,L,rfl,h1,h2,h3,h4⟩:=is_of hf;exact⟨⟨A,n,c,L⟩,rfl,(show n≤maxLen by omega),h3,h4⟩
theorem gps_of {H:Type} {enc:TypeId×Value→H} {W:World} {b:Nat} {sp:Nat→Bool} {hd:Bool} {fuel:Nat} {cs:List Value} {y:DataW H×List MemPlace}
  (hf:DataW.trod enc Tryz.prog W b sp hd fuel 47 cs=some y):∃A n c L,cs=[.slice A n c]∧n≤c∧c≤maxLen∧Sl Gp.cs 1 W A n c L∧∀x∈L,GpIn W x :=
 slice_of Gp.cs 1 (GpIn W) Tryz.underlying47 (by kernel_rfl) zo Gp.cs_len gp_in hf
structure LyIn (W:World) (y:Ly):Prop where
 rows:Sl Vc.cs 1 W y.rA y.rn y.rc y.rows
 rok:∀v∈y.rows,VcIn W v
 bias:Sl Fr.cs 4 W y.bA y.bn y.bc y.bias
 bok:∀x∈y.bias,FrIn W x
 kern:Sl Fr.cs 4 W y.kA y.kn y.kc y.kern
 kok:∀x∈y.kern,FrIn W x
 groups:Sl Gp.cs 1 W y.gA y.gn y.gc y.groups
 gok:∀v∈y.groups,GpIn W v
 ints:I64 y.ch∧I64 y.high∧I64 y.wide∧I64 y.out∧I64 y.kh∧I64 y.kw∧I64 y.st∧I64 y.pad
 kind:0≤y.kind∧y.kind≤255
 lens:y.rn≤maxLen∧y.bn≤maxLen∧y.kn≤maxLen∧y.gn≤maxLen
theorem ly_in {H:Type} {enc:TypeId×Value→H} {W:World} {b:Nat} {sp:Nat→Bool} {hd:Bool} (fuel:Nat) (cs:List Value) (y:DataW H×List MemPlace) (hl:cs.length=13)
  (hf:DataW.trod enc Tryz.prog W b sp hd fuel 49 cs=some y):∃x:Ly,cs=x.cs∧LyIn W x:=by
 have hC0:Tryz.prog.cellsOf 3=1:=by kernel_rfl
 have hC1:Tryz.prog.cellsOf 45=1:=by kernel_rfl
 have hC2:Tryz.prog.cellsOf 46=1:=by kernel_rfl
 have hC3:Tryz.prog.cellsOf 25=1:=by kernel_rfl
 have hC4:Tryz.prog.cellsOf 47=1:=by kernel_rfl
 obtain⟨xs,n,_,_,_,hx,hi⟩:=DataW.trod_struct Tryz.underlying49 hf;match cs,hl with
 | [c0,c1,c2,c3,c4,c5,c6,c7,c8,c9,c10,c11,c12],_ =>
  have g:∀k,k<13→∃z,xs[k]?=some z:=fun k hk=>⟨xs[k]'(by simp at hx;omega),List.getElem?_eq_getElem _⟩;obtain⟨z0,e0⟩:=g 0 zo;have h0:=(hi 0 _ rfl).trans e0;simp[hC1] at h0
  obtain⟨z1,e1⟩:=g 1 zo;have h1:=(hi 1 _ rfl).trans e1;simp[hC2] at h1
  obtain⟨z2,e2⟩:=g 2 zo;have h2:=(hi 2 _ rfl).trans e2;simp[hC3] at h2
  obtain⟨z3,e3⟩:=g 3 zo;have h3:=(hi 3 _ rfl).trans e3;simp[hC0] at h3
  obtain⟨z4,e4⟩:=g 4 zo;have h4:=(hi 4 _ rfl).trans e4;simp[hC0] at h4
  obtain⟨z5,e5⟩:=g 5 zo;have h5:=(hi 5 _ rfl).trans e5;simp[hC0] at h5
  obtain⟨z6,e6⟩:=g 6 zo;have h6:=(hi 6 _ rfl).trans e6;simp[hC0] at h6
  obtain⟨z7,e7⟩:=g 7 zo;have h7:=(hi 7 _ rfl).trans e7;simp[hC0] at h7
  obtain⟨z8,e8⟩:=g 8 zo;have h8:=(hi 8 _ rfl).trans e8;simp[hC0] at h8
  obtain⟨z9,e9⟩:=g 9 zo;have h9:=(hi 9 _ rfl).trans e9;simp[hC0] at h9
  obtain⟨z10,e10⟩:=g 10 zo;have h10:=(hi 10 _ rfl).trans e10;simp[hC0] at h10
  obtain⟨z11,e11⟩:=g 11 zo;have h11:=(hi 11 _ rfl).trans e11;simp[hC3] at h11
  obtain⟨z12,e12⟩:=g 12 zo;have h12:=(hi 12 _ rfl).trans e12;simp[hC4] at h12
  obtain⟨kd,ek,_,wk⟩:=DataW.trod_int Tryz.underlying45 h0;obtain⟨rA,rn,rc,rows,er,r1,r2,r3,r4⟩:=vcs_of h1;obtain⟨bA,bn,bc,bias,eb,b1,b2,b3,b4⟩:=frs_of h2;obtain⟨i0,ei0,_,w0⟩:=DataW.trod_int Tryz.underlying3 h3;obtain⟨i1,ei1,_,w1⟩:=DataW.trod_int Tryz.underlying3 h4;obtain⟨i2,ei2,_,w2⟩:=DataW.trod_int Tryz.underlying3 h5;obtain⟨i3,ei3,_,w3⟩:=DataW.trod_int Tryz.underlying3 h6;obtain⟨i4,ei4,_,w4⟩:=DataW.trod_int Tryz.underlying3 h7;obtain⟨i5,ei5,_,w5⟩:=DataW.trod_int Tryz.underlying3 h8;obtain⟨i6,ei6,_,w6⟩:=DataW.trod_int Tryz.underlying3 h9;obtain⟨i7,ei7,_,w7⟩:=DataW.trod_int Tryz.underlying3 h10;obtain⟨kA,kn,kc,kern,ekk,k1,k2,k3,k4⟩:=frs_of h11;obtain⟨gA,gn,gc,groups,eg,g1,g2,g3,g4⟩:=gps_of h12;simp only[List.cons.injEq,and_true] at ek er eb ei0 ei1 ei2 ei3 ei4 ei5 ei6 ei7 ekk eg
  subst ek er eb ei0 ei1 ei2 ei3 ei4 ei5 ei6 ei7 ekk eg;exact⟨⟨kd,rA,rn,rc,rows,bA,bn,bc,bias,i0,i1,i2,i3,i4,i5,i6,i7,kA,kn,kc,kern,gA,gn,gc,groups⟩,rfl,⟨r3,r4,b3,b4,k3,k4,g3,g4,⟨bounds_i64 w0,bounds_i64 w1,bounds_i64 w2,bounds_i64 w3,bounds_i64 w4,bounds_i64 w5,bounds_i64 w6,bounds_i64 w7⟩,bounds_u8 wk,⟨by simp;omega,by simp;omega,by simp;omega,by simp;omega⟩⟩⟩
theorem lys_of {H:Type} {enc:TypeId×Value→H} {W:World} {b:Nat} {sp:Nat→Bool} {hd:Bool} {fuel:Nat} {cs:List Value} {y:DataW H×List MemPlace}
  (hf:DataW.trod enc Tryz.prog W b sp hd fuel 22 cs=some y):∃A n c L,cs=[.slice A n c]∧n≤c∧c≤maxLen∧Sl Ly.cs 13 W A n c L∧∀x∈L,LyIn W x :=
 slice_of Ly.cs 13 (LyIn W) Tryz.underlying22 (by kernel_rfl) zo Ly.cs_len ly_in hf
open Go.RowKit Tw
def smallLy (units digits:Int) (y:Ly):Bool:=shortVcs units units digits y.rn y.rows&&(shortFrs units digits y.bn y.bias&&(shortFrs (4*units) digits y.kn y.kern&&(decide ((y.gn:Int)≤units)&&(decide (y.out≤units)&&(decide (y.ch≤units)&&(decide (y.high≤units)&&(decide (y.wide≤units)&&(y.groups.all (fun v=>decide ((v.n:Int)≤units))))))))))
def smallNet (lays units digits:Int) (n:Nat) (L:List Ly):Bool:=decide ((n:Int)≤lays)&&L.all (smallLy units digits)
theorem FrIn.len {W:World} {x:Fr} (h:FrIn W x):x.l≤9223372036854775807∧x.l'≤9223372036854775807:=⟨h.1,h.2.1⟩
theorem VcIn.short {W:World} {v:Vc} (h:VcIn W v):Sl Tm.cs 5 W v.A v.n v.c v.L∧v.n≤9223372036854775807∧∀x∈v.L,x.x.l≤9223372036854775807∧x.x.l'≤9223372036854775807:=⟨h.2.1,by have:=h.1;unfold maxLen at this;omega,fun x hx=>(h.2.2.1 x hx).1.len⟩
def SN1 (w:World) (cs:Array Value) (L:List Ly) (p:Ly→Bool) (n gk:Nat) (s:Value) (wr:World):Prop:=∃i:Nat,i≤n∧n-i=gk∧s=.int .i64 (i:Int)∧Below w.heap.size w wr∧Bx wr w.heap.size cs 24∧(L.take i).all p=true
def SN2 (w:World) (cs:Array Value) (b:Nat) (ys:Array Value) (L:List Gp) (p:Gp→Bool) (n gk:Nat) (s:Value) (wr:World):Prop:=∃i:Nat,i≤n∧n-i=gk∧s=.int .i64 (i:Int)∧Below w.heap.size w wr∧Bx wr w.heap.size cs 24∧Bx wr b ys 49∧(L.take i).all p=true
theorem smallNet_q {w:World} {inp:Int} {lA:Option Addr} {ln lc:Nat} {L:List Ly} (h:Sl Ly.cs 13 w lA ln lc L) (hin:Hid (∀y∈L,LyIn w y)) (hn:ln≤9223372036854775807) (lays units digits:Int) (hu:0≤units∧units≤100000) (r:Bool) (hr:Hid (smallNet lays units digits ln L=r)) :
  Calls Tryz.prog 4 #[.agg #[.int .i64 inp,.slice lA ln lc],.int .i64 lays,.int .i64 units,.int .i64 digits] w fun e w'=>e=.returned (.bool r)∧Below w.heap.size w w':=by
 have H:=zh h;have HLN:=zh h.1;by_cases g0:lays<(ln:Int)
 ·obtain rfl:r=false:=by rw[←hr.out];unfold smallNet;rw[decide_eq_false zo];rfl
  clear h hr;obtain⟨W,hW,x0,hB⟩:=zAc w #[.int .i64 inp,.slice lA ln lc] 24;have HX0:=zh x0;clear x0;have Bz:=zr W;have pa1:=(zxb HX0 Bz).cell 1 (.slice lA ln lc) rfl;go_enter Tryz.func4,Tryz.ntmps4
  go_wp2_with fail
  rw[←hW];clear hW;go_wp2_with fail
  go_ret
  have hF:=bT (c:=W) hB Bz;exact⟨rfl,bT hF⟩
 ·have hra:Hid (L.all (smallLy units digits)=r):=zh (by rw[←hr.out];unfold smallNet;rw[decide_eq_true zo,Bool.true_and]);clear h hr;obtain⟨W,hW,x0,hB⟩:=zAc w #[.int .i64 inp,.slice lA ln lc] 24;have HX0:=zh x0;clear x0;have Bz:=zr W;have pa1:=(zxb HX0 Bz).cell 1 (.slice lA ln lc) rfl;go_enter Tryz.func4,Tryz.ntmps4
  go_wp2_with fail
  rw[←hW];clear hW;go_wp2_with fail
  have HB1:=zh (bT hB Bz);have XX0:=zh (zxb HX0 Bz);clear hB Bz HX0;go_loopg [9] ln (fun gk s wr=>SN1 w #[.int .i64 inp,.slice lA ln lc] L (smallLy units digits) ln gk s wr)
  case atStart=>exact⟨0,Nat.zero_le _,rfl,rfl,HB1.out,XX0.out,by simp⟩
  case round =>
   clear HB1 XX0;obtain⟨i,hi,hgk,rfl,hB,hx0,hd⟩:=hrel;have HGK:=zh hgk;have HD:=zh hd;have HX0:=zh hx0;clear hgk hd hx0;by_cases hlt:i<ln
   ·obtain⟨b,off,rfl,hel⟩:=H.out.at Ly.cs_len zo zo;obtain⟨y,hy⟩:∃y,L[i]?=some y:=⟨L[i]'(by rw[HLN.out];exact hlt),List.getElem?_eq_getElem _⟩;have hnd:=hel i y hy;have HTI:=zh hy;have HY:=zh (hin.out y (List.mem_of_getElem? hy));have hyl:y.rn≤9223372036854775807∧y.bn≤9223372036854775807∧y.kn≤9223372036854775807∧y.gn≤9223372036854775807:=by have:=HY.out.lens;unfold maxLen at this;omega
    have i1:(i:Int)<(ln:Int):=zo;have i2:(0:Int)≤(i:Int):=zo;have ow_1:(w.heap.size:Nat)≤w.heap.size:=Nat.le_refl _;clear hy hel;cases h1:shortVcs units units digits y.rn y.rows
    ·have H1:=zh h1;have HP:=zh (show smallLy units digits y=false by unfold smallLy;rw[H1.out];rfl);clear h1;have Bz:=zr wr;have pa1:=(zxb HX0 Bz).cell 1 (.slice (some ⟨b,off,none⟩) ln lc) rfl;obtain⟨pA0,pA1,pA2,pA3,pA4,pA5,pA6,pA7,pA8,pA9,pAa,pAb,pAc,-⟩:=(hnd.below (bT hB Bz)).ez;go_upto_region 7 with(fail)
     obtain⟨V1,hW,x1,hN⟩:=zY wr y;rw[←hW];clear hW;obtain⟨v1,hb1⟩:=ze wr.heap.size;rw[←hb1] at x1 ⊢;have o0_1:w.heap.size<v1:=zi (zxb HX0 Bz).lt;have ow_1:w.heap.size≤v1:=zi (zw hB Bz);replace hB:=bT (bT hB Bz) hN;replace HX0:=zba HX0 Bz hN;have HX1:=zh x1;clear x1 hN Bz hb1;have Bz:=zr V1;clear pa1 pA0 pA1 pA2 pA3 pA4 pA5 pA6 pA7 pA8 pA9 pAa pAb pAc;have pb1:=(zxb HX1 Bz).cell 1 (.slice y.rA y.rn y.rc) rfl;go_wp2_with fail
     with_reducible refine(shortVecs_q (HY.out.rows.below (bT hB (bT (b:=V1) Bz))) (zh fun v hv=>⟨(HY.out.rok v hv).short.1.below (bT hB (bT (b:=V1) Bz)),(HY.out.rok v hv).short.2⟩) zo units units digits false H1).mono ?_
     rintro e w1 ⟨rfl,b1⟩;replace b1:=zq (a:=V1) b1;replace Bz:=bT Bz b1;clear b1;clear pb1;go_wp2_with fail
     go_ret
     have hF:=bT (c:=w1) hB Bz;obtain rfl:r=false:=by rw[←hra.out];exact all_no HTI.out HP.out
     exact⟨rfl,bT (bT hB Bz)⟩
    ·have H1:=zh h1;clear h1;cases h2:shortFrs units digits y.bn y.bias
     ·have H2:=zh h2;have HP:=zh (show smallLy units digits y=false by unfold smallLy;rw[H1.out,H2.out];rfl);clear h2;have Bz:=zr wr;have pa1:=(zxb HX0 Bz).cell 1 (.slice (some ⟨b,off,none⟩) ln lc) rfl;obtain⟨pA0,pA1,pA2,pA3,pA4,pA5,pA6,pA7,pA8,pA9,pAa,pAb,pAc,-⟩:=(hnd.below (bT hB Bz)).ez;go_upto_region 7 with(fail)
      obtain⟨V1,hW,x1,hN⟩:=zY wr y;rw[←hW];clear hW;obtain⟨v1,hb1⟩:=ze wr.heap.size;rw[←hb1] at x1 ⊢;have o0_1:w.heap.size<v1:=zi (zxb HX0 Bz).lt;have ow_1:w.heap.size≤v1:=zi (zw hB Bz);replace hB:=bT (bT hB Bz) hN;replace HX0:=zba HX0 Bz hN;have HX1:=zh x1;clear x1 hN Bz hb1;have Bz:=zr V1;clear pa1 pA0 pA1 pA2 pA3 pA4 pA5 pA6 pA7 pA8 pA9 pAa pAb pAc;have pb1:=(zxb HX1 Bz).cell 1 (.slice y.rA y.rn y.rc) rfl;go_wp2_with fail
      with_reducible refine(shortVecs_q (HY.out.rows.below (bT hB (bT (b:=V1) Bz))) (zh fun v hv=>⟨(HY.out.rok v hv).short.1.below (bT hB (bT (b:=V1) Bz)),(HY.out.rok v hv).short.2⟩) zo units units digits true H1).mono ?_
      rintro e w1 ⟨rfl,b1⟩;replace b1:=zq (a:=V1) b1;replace Bz:=bT Bz b1;clear b1;clear pb1;have pb2:=(zxb HX1 Bz).cell 2 (.slice y.bA y.bn y.bc) rfl;go_wp2_with fail
      with_reducible refine(zAj (HY.out.bias.below (bT hB (bT (b:=w1) Bz))) (zh fun x hx=>(HY.out.bok x hx).len) zo units digits false H2).mono ?_
      rintro e w2 ⟨rfl,b2⟩;replace b2:=zq (a:=w1) b2;replace Bz:=bT Bz b2;clear b2;clear pb2;go_wp2_with fail
      go_ret
      have hF:=bT (c:=w2) hB Bz;obtain rfl:r=false:=by rw[←hra.out];exact all_no HTI.out HP.out
      exact⟨rfl,bT (bT hB Bz)⟩
     ·have H2:=zh h2;clear h2;cases h3:shortFrs (4*units) digits y.kn y.kern
      ·have H3:=zh h3;have HP:=zh (show smallLy units digits y=false by unfold smallLy;rw[H1.out,H2.out,H3.out];rfl);clear h3;have Bz:=zr wr;have pa1:=(zxb HX0 Bz).cell 1 (.slice (some ⟨b,off,none⟩) ln lc) rfl;obtain⟨pA0,pA1,pA2,pA3,pA4,pA5,pA6,pA7,pA8,pA9,pAa,pAb,pAc,-⟩:=(hnd.below (bT hB Bz)).ez;go_upto_region 7 with(fail)
       obtain⟨V1,hW,x1,hN⟩:=zY wr y;rw[←hW];clear hW;obtain⟨v1,hb1⟩:=ze wr.heap.size;rw[←hb1] at x1 ⊢;have o0_1:w.heap.size<v1:=zi (zxb HX0 Bz).lt;have ow_1:w.heap.size≤v1:=zi (zw hB Bz);replace hB:=bT (bT hB Bz) hN;replace HX0:=zba HX0 Bz hN;have HX1:=zh x1;clear x1 hN Bz hb1;have Bz:=zr V1;clear pa1 pA0 pA1 pA2 pA3 pA4 pA5 pA6 pA7 pA8 pA9 pAa pAb pAc;have pb1:=(zxb HX1 Bz).cell 1 (.slice y.rA y.rn y.rc) rfl;go_wp2_with fail
       with_reducible refine(shortVecs_q (HY.out.rows.below (bT hB (bT (b:=V1) Bz))) (zh fun v hv=>⟨(HY.out.rok v hv).short.1.below (bT hB (bT (b:=V1) Bz)),(HY.out.rok v hv).short.2⟩) zo units units digits true H1).mono ?_
       rintro e w1 ⟨rfl,b1⟩;replace b1:=zq (a:=V1) b1;replace Bz:=bT Bz b1;clear b1;clear pb1;have pb2:=(zxb HX1 Bz).cell 2 (.slice y.bA y.bn y.bc) rfl;go_wp2_with fail
       with_reducible refine(zAj (HY.out.bias.below (bT hB (bT (b:=w1) Bz))) (zh fun x hx=>(HY.out.bok x hx).len) zo units digits true H2).mono ?_
       rintro e w2 ⟨rfl,b2⟩;replace b2:=zq (a:=w1) b2;replace Bz:=bT Bz b2;clear b2;clear pb2;have pbb:=(zxb HX1 Bz).cell 11 (.slice y.kA y.kn y.kc) rfl;go_wp2_with fail
       with_reducible refine(zAj (HY.out.kern.below (bT hB (bT (b:=w2) Bz))) (zh fun x hx=>(HY.out.kok x hx).len) zo (4*units) digits false H3).mono ?_
       rintro e w3 ⟨rfl,b3⟩;replace b3:=zq (a:=w2) b3;replace Bz:=bT Bz b3;clear b3;clear pbb;go_wp2_with fail
       go_ret
       have hF:=bT (c:=w3) hB Bz;obtain rfl:r=false:=by rw[←hra.out];exact all_no HTI.out HP.out
       exact⟨rfl,bT (bT hB Bz)⟩
      ·have H3:=zh h3;clear h3;cases h4:decide ((y.gn:Int)≤units)
       ·have H4:=zh h4;have q4:units<(y.gn:Int):=by simpa using h4
        have HP:=zh (show smallLy units digits y=false by unfold smallLy;rw[H1.out,H2.out,H3.out,H4.out];rfl);clear h4;have Bz:=zr wr;have pa1:=(zxb HX0 Bz).cell 1 (.slice (some ⟨b,off,none⟩) ln lc) rfl;obtain⟨pA0,pA1,pA2,pA3,pA4,pA5,pA6,pA7,pA8,pA9,pAa,pAb,pAc,-⟩:=(hnd.below (bT hB Bz)).ez;go_upto_region 7 with(fail)
        obtain⟨V1,hW,x1,hN⟩:=zY wr y;rw[←hW];clear hW;obtain⟨v1,hb1⟩:=ze wr.heap.size;rw[←hb1] at x1 ⊢;have o0_1:w.heap.size<v1:=zi (zxb HX0 Bz).lt;have ow_1:w.heap.size≤v1:=zi (zw hB Bz);replace hB:=bT (bT hB Bz) hN;replace HX0:=zba HX0 Bz hN;have HX1:=zh x1;clear x1 hN Bz hb1;have Bz:=zr V1;clear pa1 pA0 pA1 pA2 pA3 pA4 pA5 pA6 pA7 pA8 pA9 pAa pAb pAc;have pb1:=(zxb HX1 Bz).cell 1 (.slice y.rA y.rn y.rc) rfl;go_wp2_with fail
        with_reducible refine(shortVecs_q (HY.out.rows.below (bT hB (bT (b:=V1) Bz))) (zh fun v hv=>⟨(HY.out.rok v hv).short.1.below (bT hB (bT (b:=V1) Bz)),(HY.out.rok v hv).short.2⟩) zo units units digits true H1).mono ?_
        rintro e w1 ⟨rfl,b1⟩;replace b1:=zq (a:=V1) b1;replace Bz:=bT Bz b1;clear b1;clear pb1;have pb2:=(zxb HX1 Bz).cell 2 (.slice y.bA y.bn y.bc) rfl;go_wp2_with fail
        with_reducible refine(zAj (HY.out.bias.below (bT hB (bT (b:=w1) Bz))) (zh fun x hx=>(HY.out.bok x hx).len) zo units digits true H2).mono ?_
        rintro e w2 ⟨rfl,b2⟩;replace b2:=zq (a:=w1) b2;replace Bz:=bT Bz b2;clear b2;clear pb2;have pbb:=(zxb HX1 Bz).cell 11 (.slice y.kA y.kn y.kc) rfl;go_wp2_with fail
        with_reducible refine(zAj (HY.out.kern.below (bT hB (bT (b:=w2) Bz))) (zh fun x hx=>(HY.out.kok x hx).len) zo (4*units) digits true H3).mono ?_
        rintro e w3 ⟨rfl,b3⟩;replace b3:=zq (a:=w2) b3;replace Bz:=bT Bz b3;clear b3;clear pbb;have pbc:=(zxb HX1 Bz).cell 12 (.slice y.gA y.gn y.gc) rfl;go_wp2_with fail
        go_ret
        have hF:=bT (c:=w3) hB Bz;obtain rfl:r=false:=by rw[←hra.out];exact all_no HTI.out HP.out
        exact⟨rfl,bT (bT hB Bz)⟩
       ·have H4:=zh h4;have q4:¬units<(y.gn:Int):=by simpa using h4
        clear h4;cases h5:decide (y.out≤units)
        ·have H5:=zh h5;have q5:units<y.out:=by simpa using h5
         have HP:=zh (show smallLy units digits y=false by unfold smallLy;rw[H1.out,H2.out,H3.out,H4.out,H5.out];rfl);clear h5;have Bz:=zr wr;have pa1:=(zxb HX0 Bz).cell 1 (.slice (some ⟨b,off,none⟩) ln lc) rfl;obtain⟨pA0,pA1,pA2,pA3,pA4,pA5,pA6,pA7,pA8,pA9,pAa,pAb,pAc,-⟩:=(hnd.below (bT hB Bz)).ez;go_upto_region 7 with(fail)
         obtain⟨V1,hW,x1,hN⟩:=zY wr y;rw[←hW];clear hW;obtain⟨v1,hb1⟩:=ze wr.heap.size;rw[←hb1] at x1 ⊢;have o0_1:w.heap.size<v1:=zi (zxb HX0 Bz).lt;have ow_1:w.heap.size≤v1:=zi (zw hB Bz);replace hB:=bT (bT hB Bz) hN;replace HX0:=zba HX0 Bz hN;have HX1:=zh x1;clear x1 hN Bz hb1;have Bz:=zr V1;clear pa1 pA0 pA1 pA2 pA3 pA4 pA5 pA6 pA7 pA8 pA9 pAa pAb pAc;have pb1:=(zxb HX1 Bz).cell 1 (.slice y.rA y.rn y.rc) rfl;go_wp2_with fail
         with_reducible refine(shortVecs_q (HY.out.rows.below (bT hB (bT (b:=V1) Bz))) (zh fun v hv=>⟨(HY.out.rok v hv).short.1.below (bT hB (bT (b:=V1) Bz)),(HY.out.rok v hv).short.2⟩) zo units units digits true H1).mono ?_
         rintro e w1 ⟨rfl,b1⟩;replace b1:=zq (a:=V1) b1;replace Bz:=bT Bz b1;clear b1;clear pb1;have pb2:=(zxb HX1 Bz).cell 2 (.slice y.bA y.bn y.bc) rfl;go_wp2_with fail
         with_reducible refine(zAj (HY.out.bias.below (bT hB (bT (b:=w1) Bz))) (zh fun x hx=>(HY.out.bok x hx).len) zo units digits true H2).mono ?_
         rintro e w2 ⟨rfl,b2⟩;replace b2:=zq (a:=w1) b2;replace Bz:=bT Bz b2;clear b2;clear pb2;have pbb:=(zxb HX1 Bz).cell 11 (.slice y.kA y.kn y.kc) rfl;go_wp2_with fail
         with_reducible refine(zAj (HY.out.kern.below (bT hB (bT (b:=w2) Bz))) (zh fun x hx=>(HY.out.kok x hx).len) zo (4*units) digits true H3).mono ?_
         rintro e w3 ⟨rfl,b3⟩;replace b3:=zq (a:=w2) b3;replace Bz:=bT Bz b3;clear b3;clear pbb;obtain⟨-,-,-,-,-,-,pb6,-,-,-,-,-,pbc,-⟩:=(zxb HX1 Bz).cz;go_wp2_with fail
         go_ret
         have hF:=bT (c:=w3) hB Bz;obtain rfl:r=false:=by rw[←hra.out];exact all_no HTI.out HP.out
         exact⟨rfl,bT (bT hB Bz)⟩
        ·have H5:=zh h5;have q5:¬units<y.out:=by simpa using h5
         clear h5;cases h6:decide (y.ch≤units)
         ·have H6:=zh h6;have q6:units<y.ch:=by simpa using h6
          have HP:=zh (show smallLy units digits y=false by unfold smallLy;rw[H1.out,H2.out,H3.out,H4.out,H5.out,H6.out];rfl);clear h6;have Bz:=zr wr;have pa1:=(zxb HX0 Bz).cell 1 (.slice (some ⟨b,off,none⟩) ln lc) rfl;obtain⟨pA0,pA1,pA2,pA3,pA4,pA5,pA6,pA7,pA8,pA9,pAa,pAb,pAc,-⟩:=(hnd.below (bT hB Bz)).ez;go_upto_region 7 with(fail)
          obtain⟨V1,hW,x1,hN⟩:=zY wr y;rw[←hW];clear hW;obtain⟨v1,hb1⟩:=ze wr.heap.size;rw[←hb1] at x1 ⊢;have o0_1:w.heap.size<v1:=zi (zxb HX0 Bz).lt;have ow_1:w.heap.size≤v1:=zi (zw hB Bz);replace hB:=bT (bT hB Bz) hN;replace HX0:=zba HX0 Bz hN;have HX1:=zh x1;clear x1 hN Bz hb1;have Bz:=zr V1;clear pa1 pA0 pA1 pA2 pA3 pA4 pA5 pA6 pA7 pA8 pA9 pAa pAb pAc;have pb1:=(zxb HX1 Bz).cell 1 (.slice y.rA y.rn y.rc) rfl;go_wp2_with fail
          with_reducible refine(shortVecs_q (HY.out.rows.below (bT hB (bT (b:=V1) Bz))) (zh fun v hv=>⟨(HY.out.rok v hv).short.1.below (bT hB (bT (b:=V1) Bz)),(HY.out.rok v hv).short.2⟩) zo units units digits true H1).mono ?_
          rintro e w1 ⟨rfl,b1⟩;replace b1:=zq (a:=V1) b1;replace Bz:=bT Bz b1;clear b1;clear pb1;have pb2:=(zxb HX1 Bz).cell 2 (.slice y.bA y.bn y.bc) rfl;go_wp2_with fail
          with_reducible refine(zAj (HY.out.bias.below (bT hB (bT (b:=w1) Bz))) (zh fun x hx=>(HY.out.bok x hx).len) zo units digits true H2).mono ?_
          rintro e w2 ⟨rfl,b2⟩;replace b2:=zq (a:=w1) b2;replace Bz:=bT Bz b2;clear b2;clear pb2;have pbb:=(zxb HX1 Bz).cell 11 (.slice y.kA y.kn y.kc) rfl;go_wp2_with fail
          with_reducible refine(zAj (HY.out.kern.below (bT hB (bT (b:=w2) Bz))) (zh fun x hx=>(HY.out.kok x hx).len) zo (4*units) digits true H3).mono ?_
          rintro e w3 ⟨rfl,b3⟩;replace b3:=zq (a:=w2) b3;replace Bz:=bT Bz b3;clear b3;clear pbb;obtain⟨-,-,-,pb3,-,-,pb6,-,-,-,-,-,pbc,-⟩:=(zxb HX1 Bz).cz;go_wp2_with fail
          go_ret
          have hF:=bT (c:=w3) hB Bz;obtain rfl:r=false:=by rw[←hra.out];exact all_no HTI.out HP.out
          exact⟨rfl,bT (bT hB Bz)⟩
         ·have H6:=zh h6;have q6:¬units<y.ch:=by simpa using h6
          clear h6;cases h7:decide (y.high≤units)
          ·have H7:=zh h7;have q7:units<y.high:=by simpa using h7
           have HP:=zh (show smallLy units digits y=false by unfold smallLy;rw[H1.out,H2.out,H3.out,H4.out,H5.out,H6.out,H7.out];rfl);clear h7;have Bz:=zr wr;have pa1:=(zxb HX0 Bz).cell 1 (.slice (some ⟨b,off,none⟩) ln lc) rfl;obtain⟨pA0,pA1,pA2,pA3,pA4,pA5,pA6,pA7,pA8,pA9,pAa,pAb,pAc,-⟩:=(hnd.below (bT hB Bz)).ez;go_upto_region 7 with(fail)
           obtain⟨V1,hW,x1,hN⟩:=zY wr y;rw[←hW];clear hW;obtain⟨v1,hb1⟩:=ze wr.heap.size;rw[←hb1] at x1 ⊢;have o0_1:w.heap.size<v1:=zi (zxb HX0 Bz).lt;have ow_1:w.heap.size≤v1:=zi (zw hB Bz);replace hB:=bT (bT hB Bz) hN;replace HX0:=zba HX0 Bz hN;have HX1:=zh x1;clear x1 hN Bz hb1;have Bz:=zr V1;clear pa1 pA0 pA1 pA2 pA3 pA4 pA5 pA6 pA7 pA8 pA9 pAa pAb pAc;have pb1:=(zxb HX1 Bz).cell 1 (.slice y.rA y.rn y.rc) rfl;go_wp2_with fail
           with_reducible refine(shortVecs_q (HY.out.rows.below (bT hB (bT (b:=V1) Bz))) (zh fun v hv=>⟨(HY.out.rok v hv).short.1.below (bT hB (bT (b:=V1) Bz)),(HY.out.rok v hv).short.2⟩) zo units units digits true H1).mono ?_
           rintro e w1 ⟨rfl,b1⟩;replace b1:=zq (a:=V1) b1;replace Bz:=bT Bz b1;clear b1;clear pb1;have pb2:=(zxb HX1 Bz).cell 2 (.slice y.bA y.bn y.bc) rfl;go_wp2_with fail
           with_reducible refine(zAj (HY.out.bias.below (bT hB (bT (b:=w1) Bz))) (zh fun x hx=>(HY.out.bok x hx).len) zo units digits true H2).mono ?_
           rintro e w2 ⟨rfl,b2⟩;replace b2:=zq (a:=w1) b2;replace Bz:=bT Bz b2;clear b2;clear pb2;have pbb:=(zxb HX1 Bz).cell 11 (.slice y.kA y.kn y.kc) rfl;go_wp2_with fail
           with_reducible refine(zAj (HY.out.kern.below (bT hB (bT (b:=w2) Bz))) (zh fun x hx=>(HY.out.kok x hx).len) zo (4*units) digits true H3).mono ?_
           rintro e w3 ⟨rfl,b3⟩;replace b3:=zq (a:=w2) b3;replace Bz:=bT Bz b3;clear b3;clear pbb;obtain⟨-,-,-,pb3,pb4,-,pb6,-,-,-,-,-,pbc,-⟩:=(zxb HX1 Bz).cz;go_wp2_with fail
           go_ret
           have hF:=bT (c:=w3) hB Bz;obtain rfl:r=false:=by rw[←hra.out];exact all_no HTI.out HP.out
           exact⟨rfl,bT (bT hB Bz)⟩
          ·have H7:=zh h7;have q7:¬units<y.high:=by simpa using h7
           clear h7;cases h8:decide (y.wide≤units)
           ·have H8:=zh h8;have q8:units<y.wide:=by simpa using h8
            have HP:=zh (show smallLy units digits y=false by unfold smallLy;rw[H1.out,H2.out,H3.out,H4.out,H5.out,H6.out,H7.out,H8.out];rfl);clear h8;have Bz:=zr wr;have pa1:=(zxb HX0 Bz).cell 1 (.slice (some ⟨b,off,none⟩) ln lc) rfl;obtain⟨pA0,pA1,pA2,pA3,pA4,pA5,pA6,pA7,pA8,pA9,pAa,pAb,pAc,-⟩:=(hnd.below (bT hB Bz)).ez;go_upto_region 7 with(fail)
            obtain⟨V1,hW,x1,hN⟩:=zY wr y;rw[←hW];clear hW;obtain⟨v1,hb1⟩:=ze wr.heap.size;rw[←hb1] at x1 ⊢;have o0_1:w.heap.size<v1:=zi (zxb HX0 Bz).lt;have ow_1:w.heap.size≤v1:=zi (zw hB Bz);replace hB:=bT (bT hB Bz) hN;replace HX0:=zba HX0 Bz hN;have HX1:=zh x1;clear x1 hN Bz hb1;have Bz:=zr V1;clear pa1 pA0 pA1 pA2 pA3 pA4 pA5 pA6 pA7 pA8 pA9 pAa pAb pAc;have pb1:=(zxb HX1 Bz).cell 1 (.slice y.rA y.rn y.rc) rfl;go_wp2_with fail
            with_reducible refine(shortVecs_q (HY.out.rows.below (bT hB (bT (b:=V1) Bz))) (zh fun v hv=>⟨(HY.out.rok v hv).short.1.below (bT hB (bT (b:=V1) Bz)),(HY.out.rok v hv).short.2⟩) zo units units digits true H1).mono ?_
            rintro e w1 ⟨rfl,b1⟩;replace b1:=zq (a:=V1) b1;replace Bz:=bT Bz b1;clear b1;clear pb1;have pb2:=(zxb HX1 Bz).cell 2 (.slice y.bA y.bn y.bc) rfl;go_wp2_with fail
            with_reducible refine(zAj (HY.out.bias.below (bT hB (bT (b:=w1) Bz))) (zh fun x hx=>(HY.out.bok x hx).len) zo units digits true H2).mono ?_
            rintro e w2 ⟨rfl,b2⟩;replace b2:=zq (a:=w1) b2;replace Bz:=bT Bz b2;clear b2;clear pb2;have pbb:=(zxb HX1 Bz).cell 11 (.slice y.kA y.kn y.kc) rfl;go_wp2_with fail
            with_reducible refine(zAj (HY.out.kern.below (bT hB (bT (b:=w2) Bz))) (zh fun x hx=>(HY.out.kok x hx).len) zo (4*units) digits true H3).mono ?_
            rintro e w3 ⟨rfl,b3⟩;replace b3:=zq (a:=w2) b3;replace Bz:=bT Bz b3;clear b3;clear pbb;obtain⟨-,-,-,pb3,pb4,pb5,pb6,-,-,-,-,-,pbc,-⟩:=(zxb HX1 Bz).cz;go_wp2_with fail
            go_ret
            have hF:=bT (c:=w3) hB Bz;obtain rfl:r=false:=by rw[←hra.out];exact all_no HTI.out HP.out
            exact⟨rfl,bT (bT hB Bz)⟩
           ·have H8:=zh h8;have q8:¬units<y.wide:=by simpa using h8
            clear h8;have Bz:=zr wr;have pa1:=(zxb HX0 Bz).cell 1 (.slice (some ⟨b,off,none⟩) ln lc) rfl;obtain⟨pA0,pA1,pA2,pA3,pA4,pA5,pA6,pA7,pA8,pA9,pAa,pAb,pAc,-⟩:=(hnd.below (bT hB Bz)).ez;go_upto_region 7 with(fail)
            obtain⟨V1,hW,x1,hN⟩:=zY wr y;rw[←hW];clear hW;obtain⟨v1,hb1⟩:=ze wr.heap.size;rw[←hb1] at x1 ⊢;have o0_1:w.heap.size<v1:=zi (zxb HX0 Bz).lt;have ow_1:w.heap.size≤v1:=zi (zw hB Bz);replace hB:=bT (bT hB Bz) hN;replace HX0:=zba HX0 Bz hN;have HX1:=zh x1;clear x1 hN Bz hb1;have Bz:=zr V1;clear pa1 pA0 pA1 pA2 pA3 pA4 pA5 pA6 pA7 pA8 pA9 pAa pAb pAc;have pb1:=(zxb HX1 Bz).cell 1 (.slice y.rA y.rn y.rc) rfl;go_wp2_with fail
            with_reducible refine(shortVecs_q (HY.out.rows.below (bT hB (bT (b:=V1) Bz))) (zh fun v hv=>⟨(HY.out.rok v hv).short.1.below (bT hB (bT (b:=V1) Bz)),(HY.out.rok v hv).short.2⟩) zo units units digits true H1).mono ?_
            rintro e w1 ⟨rfl,b1⟩;replace b1:=zq (a:=V1) b1;replace Bz:=bT Bz b1;clear b1;clear pb1;have pb2:=(zxb HX1 Bz).cell 2 (.slice y.bA y.bn y.bc) rfl;go_wp2_with fail
            with_reducible refine(zAj (HY.out.bias.below (bT hB (bT (b:=w1) Bz))) (zh fun x hx=>(HY.out.bok x hx).len) zo units digits true H2).mono ?_
            rintro e w2 ⟨rfl,b2⟩;replace b2:=zq (a:=w1) b2;replace Bz:=bT Bz b2;clear b2;clear pb2;have pbb:=(zxb HX1 Bz).cell 11 (.slice y.kA y.kn y.kc) rfl;go_wp2_with fail
            with_reducible refine(zAj (HY.out.kern.below (bT hB (bT (b:=w2) Bz))) (zh fun x hx=>(HY.out.kok x hx).len) zo (4*units) digits true H3).mono ?_
            rintro e w3 ⟨rfl,b3⟩;replace b3:=zq (a:=w2) b3;replace Bz:=bT Bz b3;clear b3;clear pbb;obtain⟨-,-,-,pb3,pb4,pb5,pb6,-,-,-,-,-,pbc,-⟩:=(zxb HX1 Bz).cz;go_wp2_with fail
            have HB1:=zh (bT hB Bz);have XX0:=zh (zxb HX0 Bz);have XX1:=zh (zxb HX1 Bz);clear hB Bz HX0 HX1;go_loopg [11] y.gn (fun gk s wr=>SN2 w #[.int .i64 inp,.slice (some ⟨b,off,none⟩) ln lc] v1 #[.int .u8 y.kind,.slice y.rA y.rn y.rc,.slice y.bA y.bn y.bc,.int .i64 y.ch,.int .i64 y.high,.int .i64 y.wide,.int .i64 y.out,.int .i64 y.kh,.int .i64 y.kw,.int .i64 y.st,.int .i64 y.pad,.slice y.kA y.kn y.kc,.slice y.gA y.gn y.gc] y.groups (fun v=>decide ((v.n:Int)≤units)) y.gn gk s wr)
            case atStart=>exact⟨0,Nat.zero_le _,rfl,rfl,HB1.out,XX0.out,XX1.out,by simp⟩
            case round =>
             clear HB1 XX0 XX1;obtain⟨j,hj,hgk2,rfl,hB,hx0,hx1,hd2⟩:=hrel;have HGK2:=zh hgk2;have HD2:=zh hd2;have HX0:=zh hx0;have HX1:=zh hx1;clear hgk2 hd2 hx0 hx1;have HGL:=zh HY.out.groups.1;have HGS:=zh HY.out.groups;by_cases hjt:j<y.gn
             ·obtain⟨gb,goff,hgA,gel⟩:=HGS.out.at Gp.cs_len zo zo;rw[hgA] at HX1;obtain⟨v,hv⟩:∃v,y.groups[j]?=some v:=⟨y.groups[j]'(by rw[HGL.out];exact hjt),List.getElem?_eq_getElem _⟩;have gnd:ElA w gb (goff+j) v.cs:=by have:=gel j v hv;rwa [Nat.mul_one] at this
              have HGI:=zh hv;have hvl:v.n≤9223372036854775807:=by have:=(HY.out.gok v (List.mem_of_getElem? hv)).1;unfold maxLen at this;omega
              have j1:(j:Int)<(y.gn:Int):=zo;have j2:(0:Int)≤(j:Int):=zo;clear hv gel;have HGA:=zh hgA;clear hgA;cases hq:decide ((v.n:Int)≤units)
              ·have HQ:=zh hq;have q1:units<(v.n:Int):=by simpa using hq
               clear hq;have Bz:=zr wr;have pbc:=(zxb HX1 Bz).cell 12 (.slice (some ⟨gb,goff,none⟩) y.gn y.gc) rfl;have pA0:=(gnd.below (bT hB Bz)).c0 (u:=.slice v.A v.n v.c) rfl;go_wp2_with fail
               go_ret
               have hF:=bT (c:=wr) hB Bz;have HP:smallLy units digits y=false:=by unfold smallLy;rw[H1.out,H2.out,H3.out,H4.out,H5.out,H6.out,H7.out,H8.out,all_no HGI.out HQ.out];rfl
               obtain rfl:r=false:=by rw[←hra.out];exact all_no HTI.out HP
               exact⟨rfl,bT (bT hB Bz)⟩
              ·have HQ:=zh hq;have q1:¬units<(v.n:Int):=by simpa using hq
               clear hq;have Bz:=zr wr;have pbc:=(zxb HX1 Bz).cell 12 (.slice (some ⟨gb,goff,none⟩) y.gn y.gc) rfl;have pA0:=(gnd.below (bT hB Bz)).c0 (u:=.slice v.A v.n v.c) rfl;go_wp2_with fail
               go_roundg (y.gn-(j+1))
               case measure=>have:=HGK2.out;omega
               case rel=>exact⟨j+1,zo,rfl,by go_num,bT (bT hB Bz),HX0.out.below (bT Bz),(by have:=HX1.out.below (bT Bz);rwa [←HGA.out] at this),take_all HD2.out HGI.out HQ.out⟩
             ·obtain rfl:j=y.gn:=zo;have j1:¬(y.gn:Int)<(y.gn:Int):=zo;have HP:smallLy units digits y=true:=by unfold smallLy;rw[H1.out,H2.out,H3.out,H4.out,H5.out,H6.out,H7.out,H8.out,all_yes HGL.out HD2.out];rfl
              have HPP:=zh HP;clear HP;have Bz:=zr wr;have pbc:=(zxb HX1 Bz).cell 12 (.slice y.gA y.gn y.gc) rfl;go_wp2_with fail
              go_roundg (ln-(i+1))
              case measure=>have:=HGK.out;omega
              case rel=>exact⟨i+1,zo,rfl,by go_num,hB,HX0.out,take_all HD.out HTI.out HPP.out⟩
   ·obtain rfl:i=ln:=zo;have i1:¬(i:Int)<(i:Int):=zo;obtain rfl:r=true:=by rw[←hra.out];exact all_yes HLN.out HD.out
    have Bz:=zr wr;have pa1:=(zxb HX0 Bz).cell 1 (.slice lA i lc) rfl;go_wp2_with fail
    go_ret
    exact⟨rfl,hB⟩
open Go.ChangeShapes Go.WideShapes Go.ChangeAt Go.RowKit Tw
def NtIn (W:World) (v:Value):Prop:=∃(inp:Int) (A:Option Addr) (n c:Nat) (L:List Ly),v=.agg #[.int .i64 inp,.slice A n c]∧I64 inp∧n≤c∧c≤maxLen∧Sl Ly.cs 13 W A n c L∧∀y∈L,LyIn W y
theorem net_of {H:Type} {enc:TypeId×Value→H} {W:World} {b:Nat} {sp:Nat→Bool} {hd:Bool} {v:Value} {d:DataW H} {p:List MemPlace}
  (h:DataW.Trod enc Tryz.prog W b sp hd 24 v d p) (hv:∃cs,v=.agg cs):NtIn W v:=by
 obtain⟨cs,rfl⟩:=hv;obtain⟨fuel,hf⟩:=h;obtain⟨y0,y1,n,hx,hl,h0,h1⟩:=trod_struct2 Tryz.underlying24 hf;have hC:Tryz.prog.cellsOf 24=2:=by kernel_rfl
 have hC0:Tryz.prog.cellsOf 3=1:=by kernel_rfl
 have hC1:Tryz.prog.cellsOf 22=1:=by kernel_rfl
 have hl':cs.size=2:=by rw[←hC,←hl];simp[Value.cells]
 obtain⟨c0,c1,rfl⟩:=Joins.array2 hl';simp[Value.cells,hC0] at h0
 simp[Value.cells,hC1] at h1
 obtain⟨z,ez,_,wz⟩:=DataW.trod_int Tryz.underlying3 h0;obtain⟨A,l,c,L,el,l1,l2,l3,l4⟩:=lys_of h1;simp only[List.cons.injEq,and_true] at ez el
 subst ez el;exact⟨z,A,l,c,L,rfl,bounds_i64 wz,l1,l2,l3,l4⟩
theorem aggNet_of {W:World} {r:Reach} {b:Nat} {v:Value} (h:Value.okWide Tryz.prog W r b 24 v):∃cs,v=.agg cs:=by
 obtain⟨cs,rfl,_⟩:=okWide_struct Tryz.underlying24 h;exact⟨cs,rfl⟩
def QyIn (W:World) (v:Value):Prop:=∃(xA:Option Addr) (xn xc:Nat) (X:List Fr) (lab:Int) (lA:Option Addr) (ln lc:Nat) (Lo:List Fr) (hA:Option Addr) (hn hc:Nat) (Hi:List Fr) (nm:Int),
 v=.agg #[.slice xA xn xc,.int .i64 lab,.slice lA ln lc,.slice hA hn hc,.int .u8 nm]∧I64 lab∧(0≤nm∧nm≤255)∧
 (xn≤xc∧xc≤maxLen∧Sl Fr.cs 4 W xA xn xc X∧∀x∈X,FrIn W x)∧(ln≤lc∧lc≤maxLen∧Sl Fr.cs 4 W lA ln lc Lo∧∀x∈Lo,FrIn W x)∧(hn≤hc∧hc≤maxLen∧Sl Fr.cs 4 W hA hn hc Hi∧∀x∈Hi,FrIn W x)
theorem query_of {H:Type} {enc:TypeId×Value→H} {W:World} {b:Nat} {sp:Nat→Bool} {hd:Bool} {v:Value} {d:DataW H} {p:List MemPlace}
  (h:DataW.Trod enc Tryz.prog W b sp hd 28 v d p) (hv:∃cs,v=.agg cs∧cs.size=5):QyIn W v:=by
 obtain⟨cs,rfl,hcs⟩:=hv;obtain⟨fuel,hf⟩:=h;have hC0:Tryz.prog.cellsOf 3=1:=by kernel_rfl
 have hC1:Tryz.prog.cellsOf 25=1:=by kernel_rfl
 have hC2:Tryz.prog.cellsOf 26=1:=by kernel_rfl
 obtain⟨xs,n,_,_,_,hx,hi⟩:=DataW.trod_struct Tryz.underlying28 hf;obtain⟨cl⟩:=cs;match cl,hcs with
 | [c0,c1,c2,c3,c4],_ =>
  have g:∀k,k<5→∃z,xs[k]?=some z:=fun k hk=>⟨xs[k]'(by simp at hx;omega),List.getElem?_eq_getElem _⟩;obtain⟨z0,e0⟩:=g 0 zo;have h0:=(hi 0 _ rfl).trans e0;simp[Value.cells,hC1] at h0
  obtain⟨z1,e1⟩:=g 1 zo;have h1:=(hi 1 _ rfl).trans e1;simp[Value.cells,hC0] at h1
  obtain⟨z2,e2⟩:=g 2 zo;have h2:=(hi 2 _ rfl).trans e2;simp[Value.cells,hC1] at h2
  obtain⟨z3,e3⟩:=g 3 zo;have h3:=(hi 3 _ rfl).trans e3;simp[Value.cells,hC1] at h3
  obtain⟨z4,e4⟩:=g 4 zo;have h4:=(hi 4 _ rfl).trans e4;simp[Value.cells,hC2] at h4
  obtain⟨xA,xn,xc,X,ex,x1,x2,x3,x4⟩:=frs_of h0;obtain⟨lab,eb,_,wb⟩:=DataW.trod_int Tryz.underlying3 h1;obtain⟨lA,ln,lc,Lo,el,l1,l2,l3,l4⟩:=frs_of h2;obtain⟨hA,hn,hc,Hi,eh,y1,y2,y3,y4⟩:=frs_of h3;obtain⟨nm,en,_,wn⟩:=DataW.trod_int Tryz.underlying26 h4;simp only[List.cons.injEq,and_true] at ex eb el eh en
  subst ex eb el eh en;exact⟨xA,xn,xc,X,lab,lA,ln,lc,Lo,hA,hn,hc,Hi,nm,rfl,bounds_i64 wb,bounds_u8 wn,⟨x1,x2,x3,x4⟩,⟨l1,l2,l3,l4⟩,⟨y1,y2,y3,y4⟩⟩
theorem aggQuery_of {W:World} {r:Reach} {b:Nat} {v:Value} (h:Value.okWide Tryz.prog W r b 28 v):∃cs,v=.agg cs∧cs.size=5:=by
 obtain⟨cs,rfl,hs⟩:=okWide_struct Tryz.underlying28 h;have hC:Tryz.prog.cellsOf 28=5:=by kernel_rfl
 rw[hC] at hs;exact⟨cs,rfl,hs⟩
end Go.Proofs.YtidjjejgbahcgaaGreatDoor
