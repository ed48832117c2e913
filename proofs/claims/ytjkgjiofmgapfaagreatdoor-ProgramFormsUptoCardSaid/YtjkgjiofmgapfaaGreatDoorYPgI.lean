/-
  A program that came in: variables, rows, cost. By hand.
-/
import Derived.Test.YtjkgjiofmgapfaaGreatDoorYRdV
import Derived.Test.YtjkgjiofmgapfaaGreatDoorYVm
set_option maxRecDepth 100000
namespace Go.Proofs.YtjkgjiofmgapfaaGreatDoor
open Go.ChangeShapes Go.WideShapes Go.ChangeAt Go.RowKit Tw
def VrIn (W:World) (x:Vr):Prop:=FrIn W x.lo∧FrIn W x.hi
structure RwIn (W:World) (x:Rw):Prop where
 sl:Sl Tm.cs 5 W x.A x.n x.c x.L
 t:∀t∈x.L,TmIn W t
 n:x.n≤maxLen
 nil:x.A=none→x.c=0
 b:FrIn W x.b
structure PgIn (W:World) (K:Nat) (p:Pg):Prop where
 vsl:Sl Vr.cs 9 W p.vA p.vn p.vc p.V
 v:∀x∈p.V,VrIn W x
 rsl:Sl Rw.cs 6 W p.rA p.rn p.rc p.R
 r:∀x∈p.R,RwIn W x∧x.n≤K
 csl:Sl Tm.cs 5 W p.cA p.cn p.cc p.C
 c:∀t∈p.C,TmIn W t
 ns:p.vn≤K∧p.rn≤K∧p.cn≤K
 nil:p.cA=none→p.cc=0
variable {H:Type} {enc:TypeId×Value→H} {W:World} {b:Nat} {sp:Nat→Bool} {hd:Bool}
theorem vr_in (fuel:Nat) (cs:List Value) (y:DataW H×List MemPlace) (hl:cs.length=9) (hf:DataW.trod enc Tryz.prog W b sp hd fuel 44 cs=some y):∃x:Vr,cs=x.cs∧VrIn W x:=by
 have hC0:Tryz.prog.cellsOf 33=4:=by kernel_rfl
 have hC1:Tryz.prog.cellsOf 4=1:=by kernel_rfl
 obtain⟨xs,n,_,_,_,hx,hi⟩:=DataW.trod_struct Tryz.underlying44 hf;match cs,hl with
 | [c0,c1,c2,c3,c4,c5,c6,c7,c8],_ =>
  have g:∀k,k<3→∃z,xs[k]?=some z:=fun k hk=>⟨xs[k]'(by simp at hx;omega),List.getElem?_eq_getElem _⟩;obtain⟨z0,e0⟩:=g 0 zo;obtain⟨z1,e1⟩:=g 1 zo;obtain⟨z2,e2⟩:=g 2 zo;have h0:=(hi 0 _ rfl).trans e0;have h1:=(hi 1 _ rfl).trans e1;have h2:=(hi 2 _ rfl).trans e2;simp[hC0] at h0 h1
  simp[hC1] at h2
  obtain⟨x,ex,hx0⟩:=fr_in _ _ _ rfl h0;obtain⟨x',ex',hx1⟩:=fr_in _ _ _ rfl h1;obtain⟨t,et,_⟩:=DataW.trod_bool Tryz.underlying4 h2;simp[Fr.cs] at ex ex' et
  obtain⟨rfl,rfl,rfl,rfl⟩:=ex;obtain⟨rfl,rfl,rfl,rfl⟩:=ex';subst et;exact⟨⟨x,x',t⟩,rfl,hx0,hx1⟩
theorem rw_in (fuel:Nat) (cs:List Value) (y:DataW H×List MemPlace) (hl:cs.length=6) (hf:DataW.trod enc Tryz.prog W b sp hd fuel 35 cs=some y):∃x:Rw,cs=x.cs∧RwIn W x:=by
 have hC0:Tryz.prog.cellsOf 25=1:=by kernel_rfl
 have hC1:Tryz.prog.cellsOf 28=1:=by kernel_rfl
 have hC2:Tryz.prog.cellsOf 33=4:=by kernel_rfl
 obtain⟨xs,n,_,_,_,hx,hi⟩:=DataW.trod_struct Tryz.underlying35 hf;match cs,hl with
 | [c0,c1,c2,c3,c4,c5],_ =>
  have g:∀k,k<3→∃z,xs[k]?=some z:=fun k hk=>⟨xs[k]'(by simp at hx;omega),List.getElem?_eq_getElem _⟩;obtain⟨z0,e0⟩:=g 0 zo;obtain⟨z1,e1⟩:=g 1 zo;obtain⟨z2,e2⟩:=g 2 zo;have h0:=(hi 0 _ rfl).trans e0;have h1:=(hi 1 _ rfl).trans e1;have h2:=(hi 2 _ rfl).trans e2;simp[hC0] at h0
  simp[hC1] at h1
  simp[hC2] at h2
  obtain⟨A,k,c,L,e,h3,h4,h5,h6⟩:=slice_of Tm.cs 5 (TmIn W) Tryz.underlying25 (by kernel_rfl) zo Tm.cs_len tm_in h0;obtain⟨z,ez,_,_⟩:=DataW.trod_int Tryz.underlying28 h1;obtain⟨x,ex,hx0⟩:=fr_in _ _ _ rfl h2;simp at e ez
  simp[Fr.cs] at ex
  obtain⟨rfl,rfl,rfl,rfl⟩:=ex;subst e;subst ez;exact⟨⟨A,k,c,L,z,x⟩,rfl,h5,h6,Nat.le_trans h3 h4,cap_none Tryz.underlying25 h0,hx0⟩
theorem row_bulk {fuel:Nat} {y:DataW H×List MemPlace} {x:Rw} (hf:DataW.trod enc Tryz.prog W b sp hd fuel 35 x.cs=some y) (hL:Sl Tm.cs 5 W x.A x.n x.c x.L):x.n≤Rows.uptoBulk y.1:=by
 have hC0:Tryz.prog.cellsOf 25=1:=by kernel_rfl
 obtain⟨xs,n,_,rfl,_,hx,hi⟩:=DataW.trod_struct Tryz.underlying35 hf;obtain⟨z0,e0⟩:∃z,xs[0]?=some z:=⟨xs[0]'(by have:xs.length=3:=hx;omega),List.getElem?_eq_getElem _⟩;have h0:=(hi 0 _ rfl).trans e0;simp[hC0,Rw.cs] at h0
 exact Nat.le_trans (vec_bulk h0 hL).1 (bulk_agg (List.mem_map.2 ⟨z0,List.mem_of_getElem? e0,rfl⟩))
theorem pg_of {fuel:Nat} {y:DataW H×List MemPlace} {c0 c1 c2:Value} (hf:DataW.trod enc Tryz.prog W b sp hd fuel 27 [c0,c1,c2]=some y):∃p:Pg,[c0,c1,c2]=p.cs∧PgIn W (Rows.uptoBulk y.1) p:=by
 have hC0:Tryz.prog.cellsOf 22=1:=by kernel_rfl
 have hC1:Tryz.prog.cellsOf 23=1:=by kernel_rfl
 have hC2:Tryz.prog.cellsOf 25=1:=by kernel_rfl
 obtain⟨xs,n,_,rfl,_,hx,hi⟩:=DataW.trod_struct Tryz.underlying27 hf;have g:∀k,k<3→∃z,xs[k]?=some z:=fun k hk=>⟨xs[k]'(by simp at hx;omega),List.getElem?_eq_getElem _⟩;obtain⟨z0,e0⟩:=g 0 zo;obtain⟨z1,e1⟩:=g 1 zo;obtain⟨z2,e2⟩:=g 2 zo;have h0:=(hi 0 _ rfl).trans e0;have h1:=(hi 1 _ rfl).trans e1;have h2:=(hi 2 _ rfl).trans e2;simp[hC0] at h0
 simp[hC1] at h1
 simp[hC2] at h2
 have gb:∀{k:Nat} {z:DataW H×List MemPlace},xs[k]?=some z→Rows.uptoBulk z.1≤Rows.uptoBulk (.agg (xs.map (·.1))):=fun e=>bulk_agg (List.mem_map.2 ⟨_,List.mem_of_getElem? e,rfl⟩);obtain⟨A0,k0,d0,L0,r0,_,_,s0,t0⟩:=slice_of Vr.cs 9 (VrIn W) Tryz.underlying22 (by kernel_rfl) zo Vr.cs_len vr_in h0;obtain⟨A1,k1,d1,L1,r1,_,_,s1,t1⟩:=slice_of Rw.cs 6 (RwIn W) Tryz.underlying23 (by kernel_rfl) zo Rw.cs_len rw_in h1;obtain⟨A2,k2,d2,L2,r2,_,_,s2,t2⟩:=slice_of Tm.cs 5 (TmIn W) Tryz.underlying25 (by kernel_rfl) zo Tm.cs_len tm_in h2;simp at r0 r1 r2
 subst r0;subst r1;subst r2;have b0:=slice_bulk Tryz.underlying22 (by kernel_rfl) Vr.cs_len h0 s0;have b1:=slice_bulk Tryz.underlying23 (by kernel_rfl) Rw.cs_len h1 s1;have b2:=vec_bulk h2 s2;refine⟨⟨A0,k0,d0,L0,A1,k1,d1,L1,A2,k2,d2,L2⟩,rfl,s0,t0,s1,fun x hx=>⟨t1 x hx,?_⟩,s2,t2,⟨Nat.le_trans b0.1 (gb e0),Nat.le_trans b1.1 (gb e1),Nat.le_trans b2.1 (gb e2)⟩,cap_none Tryz.underlying25 h2⟩;obtain⟨fl,z,h3,h4⟩:=b1.2 x hx;exact Nat.le_trans (row_bulk h3 (t1 x hx).sl) (Nat.le_trans h4 (gb e1))
end Go.Proofs.YtjkgjiofmgapfaaGreatDoor
