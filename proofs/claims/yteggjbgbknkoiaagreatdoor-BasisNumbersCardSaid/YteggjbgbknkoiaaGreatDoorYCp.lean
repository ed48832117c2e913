import Derived.Test.YteggjbgbknkoiaaGreatDoorYCp0
import Derived.Test.YteggjbgbknkoiaaGreatDoorYMx5
set_option maxHeartbeats 8000000
set_option maxRecDepth 100000
namespace Go.Proofs.YteggjbgbknkoiaaGreatDoor
open Go.RowKit Tw
variable {w':World} {A:Option Addr} {X:Value} {K M g hc:Nat}
theorem VcD.k {w:World} {n c:Nat} {D:List (Int×Dg)} (h:VcD w A n c D) (hk:K64 w w') (hs:∀L,Sl Tm.cs 5 w A n c L→Sl Tm.cs 5 w' A n c L):VcD w' A n c D:=by
 obtain⟨⟨L,h1,h2⟩,h3⟩:=h;exact⟨⟨L,hs L h1,h2.k hk⟩,h3⟩
def VcN (w:World) (X:Value) (v:Vc) (D:List (Int×Dg)):Prop:=VcD w v.A v.n v.c D∧(∀a,v.A=some a→a.block<w.heap.size∧some a.block≠X.ownBlock)∧(v.A=none→v.c=0)
theorem VcN.below {w:World} {v:Vc} {D:List (Int×Dg)} (h:VcN w X v D) (hb:Below w.heap.size w w':=by go_grown):VcN w' X v D:=⟨h.1.below hb,fun a ha=>⟨dB (h.2.1 a ha).1 hb.size,(h.2.1 a ha).2⟩,h.2.2⟩
theorem VcN.grow {w:World} {X':Value} {v:Vc} {D:List (Int×Dg)} (h:VcN w X v D) (hg:Grew w w' X X'):VcN w' X' v D:=by
 obtain⟨⟨⟨L,⟨l1,l2,A,c,e,l3,l4⟩,h2⟩,h3⟩,h4,hz⟩:=h;cases e;refine⟨⟨⟨L,⟨l1,l2,_,_,rfl,l3,fun a ha j u hu=>?_⟩,h2.k hg.k⟩,h3⟩,fun a ha=>⟨dB (h4 a ha).1 hg.size,hg.ne (h4 a ha).1 (h4 a ha).2⟩,hz⟩;have h5:=l4 a ha j u hu;have h7:(a.add j).block=a.block:=by unfold Addr.add;split<;>rfl
 rw[←h5];exact World.cell?_of_block (by rw[h7];exact hg.by_.block a.block (h4 a ha).1 (h4 a ha).2)
def VsN (w:World) (X:Value) (O:List Vc) (E:List (List (Int×Dg))):Prop:=All2 (VcN w X) O E
theorem VsN.below {w:World} {O:List Vc} {E:List (List (Int×Dg))} (h:VsN w X O E) (hb:Below w.heap.size w w':=by go_grown):VsN w' X O E:=All2.mono h fun _ _ hx=>hx.below hb
theorem VsN.grow {w:World} {X':Value} {O:List Vc} {E:List (List (Int×Dg))} (h:VsN w X O E) (hg:Grew w w' X X'):VsN w' X' O E:=All2.mono h fun _ _ hx=>hx.grow hg
def RowsD (w:World) (A:Option Addr) (n c:Nat) (E:List (List (Int×Dg))):Prop:=(∃CL:List Vc,Sl Vc.cs 1 w A n c CL∧All2 (fun v D=>VcD w v.A v.n v.c D) CL E)∧∀D∈E,D.length≤1000000
theorem RowsD.below {w:World} {n c:Nat} {E:List (List (Int×Dg))} (h:RowsD w A n c E) (hb:Below w.heap.size w w':=by go_grown):RowsD w' A n c E:=by
 obtain⟨⟨CL,h1,h2⟩,h3⟩:=h;exact⟨⟨CL,h1.below hb,All2.mono h2 fun _ _ hx=>hx.below hb⟩,h3⟩
theorem RowsD.len {w:World} {n c:Nat} {E:List (List (Int×Dg))} (h:RowsD w A n c E):E.length=n:=by
 obtain⟨⟨CL,h1,h2⟩,_⟩:=h;rw[←h2.1,h1.1]
theorem V.copy {w:World} {A':Option Addr} {c c' l l' n:Nat} {xs:List Nat} (h:V w A c l n) (hx:Nx w A c l xs) (hy:Nx w' A' c' l' xs):V w' A' c' l' n:=by
 obtain⟨ys,h1,h2,h3⟩:=h;obtain rfl:ys=xs:=h1.inj hx.1 (h2.trans hx.2.symm);exact⟨ys,hy.1,hy.2,h3⟩
theorem FrD.ok {w:World} {m:Nat} {x y:Fr} {d:Dg} (h:FrOk w m x) (hd:FrD w d x) (hy:FrD w' d y):FrOk w' m ⟨y.s,y.A,y.c,y.l,y.s',y.A',y.c',y.l',x.q,x.ex⟩:=by
 obtain⟨⟨n,e,⟨n1,h1,h2⟩,⟨n2,h3,h4⟩,h5,h6,h7⟩,xs,ys,h8,h9,h10⟩:=h;obtain⟨d1,d2,d3,d4⟩:=hd;obtain⟨y1,y2,y3,y4⟩:=hy;have l1:y.l=x.l:=y3.2.symm.trans d3.2;have l2:y.l'=x.l':=y4.2.symm.trans d4.2;have e1:xs=d.xs:=h8.1.inj d3.1 (h8.2.trans d3.2.symm);have e2:ys=d.xs':=h9.1.inj d4.1 (h9.2.trans d4.2.symm);refine⟨⟨n,e,⟨n1,h1.copy d3 y3,?_⟩,⟨n2,h3.copy d4 y4,?_⟩,?_,?_,?_⟩,d.xs,d.xs',⟨y3.1,y3.2⟩,⟨y4.1,y4.2⟩,?_⟩
 ·show sgn y.s n1=n
  rw[y1,←d1];exact h2
 ·show sgn y.s' n2=e
  rw[y2,←d2];exact h4
 ·show x.q=if y.l'=0 then qof n 1 else qof n e
  rw[l2];exact h5
 ·show y.l≤m
  omega
 ·show y.l'≤m
  omega
 ·show exB y.s d.xs y.s' d.xs' x.q=x.ex
  rw[y1,y2,←d1,←d2,←e1,←e2];exact h10
theorem All2.ex {α β γ:Type} {T:α→β→Prop} {U:α→β→γ→Prop} {L:List α} {K:List β} (h:All2 T L K) (hu:∀x∈L,∀y∈K,T x y→∃z,U x y z):∃Z:List γ,Z.length=L.length∧∀(i:Nat) x y z,L[i]?=some x→K[i]?=some y→Z[i]?=some z→U x y z:=by
 obtain⟨Z,hz⟩:=All2.of (R:=fun(p:α×β) z=>U p.1 p.2 z) (L:=L.zip K) fun p hp=>by
  obtain⟨i,hi⟩:=rD hp;obtain⟨h1,h2⟩:=List.getElem?_zip_eq_some.1 hi;exact hu _ (eA h1) _ (eA h2) (h.2 i _ _ h1 h2)
 refine⟨Z,?_,fun i x y z h1 h2 h3=>hz.2 i (x,y) z (List.getElem?_zip_eq_some.2 ⟨h1,h2⟩) h3⟩;rw[←hz.1,List.length_zip,←h.1,Nat.min_self]
theorem flat_by {α:Type} {f:α→List Value} {L K:List α} (h:L.map f=K.map f):flat f L=flat f K:=by
 unfold flat
 rw[List.flatMap_def,List.flatMap_def,h]
theorem Sl.as {α:Type} {f:α→List Value} {k:Nat} {w:World} {n c:Nat} {L K:List α} (h:Sl f k w A n c L) (e:K.map f=L.map f):Sl f k w A n c K:=by
 have hl:K.length=L.length:=by have:=congrArg List.length e;rwa [xB,xB] at this
 exact⟨hl.trans h.1,by rw[flat_by e];exact h.2⟩
theorem CN.dg {w:World} {v:Vc} (h:CN w v M) (hM:M≤800000):∃D,TsD w v.L D∧VcD w v.A v.n v.c D:=by
 obtain⟨D,hD⟩:=All2.of (R:=TmD w) (L:=v.L) fun t ht=>by
  obtain⟨a1,_,a3⟩:=h.2.1 t ht;have a3:sz t.x.q+1≤M:=a3;obtain⟨d,hd⟩:=(a1.fr (m:=M) zo).dg;exact⟨(t.at_,d),rfl,hd⟩
 refine⟨D,hD,⟨v.L,h.1,hD⟩,fun d hd=>?_⟩;obtain⟨i,hid⟩:=rD hd;have hi2:i<v.L.length:=by rw[hD.1];exact(yB.1 hid).1
 have h1:=hD.2 i _ d (cA hi2) hid;obtain⟨a1,_,a3⟩:=h.2.1 _ (List.getElem_mem hi2);have a3:sz v.L[i].x.q+1≤M:=a3;have h2:=(a1.r' (m:=M) zo).len;rw[h1.2.2.2.1.2,h1.2.2.2.2.2];omega
def CVs (w:World) (H:Value) (M:Nat) (V:List Vc):Prop:=∀v∈V,CN w v M∧∀a,v.A=some a→a.block<w.heap.size∧some a.block≠H.ownBlock
theorem CVs.below {w:World} {H:Value} {V:List Vc} (h:CVs w H M V) (hb:Below w.heap.size w w':=by go_grown):CVs w' H M V:=fun v hv=>⟨(h v hv).1.below hb,fun a ha=>⟨dB ((h v hv).2 a ha).1 hb.size,((h v hv).2 a ha).2⟩⟩
theorem CN.grow {w:World} {H H':Value} {v:Vc} (h:CN w v M) (h4:∀a,v.A=some a→a.block<w.heap.size∧some a.block≠H.ownBlock) (hg:Grew w w' H H'):CN w' v M:=by
 obtain⟨⟨l1,l2,A,c,e,l3,l4⟩,h2,hz⟩:=h;cases e;refine⟨⟨l1,l2,_,_,rfl,l3,fun a ha j u hu=>?_⟩,h2.k hg.k,hz⟩;have h5:=l4 a ha j u hu;have h7:(a.add j).block=a.block:=by unfold Addr.add;split<;>rfl
 rw[←h5];exact World.cell?_of_block (by rw[h7];exact hg.by_.block a.block (h4 a ha).1 (h4 a ha).2)
theorem CVs.grow {w:World} {H H':Value} {V:List Vc} (h:CVs w H M V) (hg:Grew w w' H H'):CVs w' H' M V:=fun v hv=>⟨(h v hv).1.grow (h v hv).2 hg,fun a ha=>⟨dB ((h v hv).2 a ha).1 hg.size,hg.ne ((h v hv).2 a ha).1 ((h v hv).2 a ha).2⟩⟩
theorem CVs.mono {w:World} {H:Value} {M':Nat} {V:List Vc} (h:CVs w H M V) (hm:M≤M'):CVs w H M' V:=fun v hv=>⟨⟨(h v hv).1.1,(h v hv).1.2.1.mono fun _ _=>hm,(h v hv).1.2.2⟩,(h v hv).2⟩
theorem CVs.cm {w:World} {B n:Nat} {V:List Vc} (h:CVs w (.slice (some ⟨g,0,none⟩) n hc) M V) (ho:OwnR w B 35 1 (.slice (some ⟨g,0,none⟩) n hc) n (flat Vc.cs V)):CM w (some ⟨g,0,none⟩) n hc (V.map fun v=>prs v.L) M :=
 ⟨V,ho.sl' elt_vcs (ho.eltn elt_vcs zo),fun v hv=>(h v hv).1,rfl⟩
theorem own_cnb {w:World} {B n c:Nat} {L:List Tm} (h1:OwnR w B 32 5 (.slice A n c) n (flat Tm.cs L)) (h2:OnT w L fun _=>M):CN w ⟨A,n,c,L⟩ M∧∀a,A=some a→a.block<w.heap.size∧B≤a.block:=by
 refine⟨⟨h1.sl' elt_vec (h1.eltn elt_vec zo),h2,fun hn=>?_⟩,fun a ha=>by subst ha;exact⟨h1.lt a.block rfl,h1.base a.block rfl⟩⟩;obtain⟨_,_,e9,h9,_⟩:=h1.slice;cases e9;exact(h9 hn).2
theorem CVs.put {w:World} {B n p:Nat} {V:List Vc} {y X:Vc} (h:CVs w (.slice (some ⟨g,0,none⟩) n hc) M V) (ho:OwnR w B 35 1 (.slice (some ⟨g,0,none⟩) n hc) n (flat Vc.cs V)) (hy:V[p]?=some y) (hx:CN w X M) (hxb:∀a,X.A=some a→a.block<w.heap.size∧a.block≠g) :
  ∃W,W=w.setCell ⟨g,p,none⟩ (.slice X.A X.n X.c)∧OwnR W B 35 1 (.slice (some ⟨g,0,none⟩) n hc) n (flat Vc.cs (V.set p X))∧CVs W (.slice (some ⟨g,0,none⟩) n hc) M (V.set p X)∧Grew w W (.slice (some ⟨g,0,none⟩) n hc) (.slice (some ⟨g,0,none⟩) n hc):=by
 obtain⟨W,hW,h1,h2⟩:=vc_store ho hy X;have hb:∀a,X.A=some a→a.block<w.heap.size∧some a.block≠(Value.slice (some ⟨g,0,none⟩) n hc).ownBlock:=fun a ha=>⟨(hxb a ha).1,fun e=>(hxb a ha).2 (by cases e;rfl)⟩;refine⟨W,hW,h1,fun v hv=>?_,h2⟩;rcases qC hv with h3 | rfl
 ·exact h.grow h2 v h3
 ·exact⟨hx.grow hb h2,fun a ha=>⟨dB (hb a ha).1 h2.size,h2.ne (hb a ha).1 (hb a ha).2⟩⟩
def VK (w:World) (g:Nat) (T:List (List (Int×Rat))) (i MM:Nat) (V:List Vc):Prop :=
 ∀(j:Nat) v,V[j]?=some v→(j<i→CN w v MM∧T[j]?=some (prs v.L)∧∀a,v.A=some a→a.block<w.heap.size∧a.block≠g)∧(i≤j→v=zVc)
theorem VK.below {w:World} {i MM:Nat} {T:List (List (Int×Rat))} {V:List Vc} (h:VK w g T i MM V) (hb:Below w.heap.size w w':=by go_grown):VK w' g T i MM V:=fun j v hv =>
 ⟨fun hj=>⟨((h j v hv).1 hj).1.below hb,((h j v hv).1 hj).2.1,fun a ha=>⟨dB (((h j v hv).1 hj).2.2 a ha).1 hb.size,(((h j v hv).1 hj).2.2 a ha).2⟩⟩,(h j v hv).2⟩
theorem VK.step {w W:World} {n i MM:Nat} {T:List (List (Int×Rat))} {V:List Vc} (h:VK w g T i MM V) (hg:Grew w W (.slice (some ⟨g,0,none⟩) n hc) (.slice (some ⟨g,0,none⟩) n hc)) (hi:i<V.length) {x:Vc} (hx:CN w x MM) (hp:T[i]?=some (prs x.L)) (ha:∀a,x.A=some a→a.block<w.heap.size∧a.block≠g):VK W g T (i+1) MM (V.set i x):=fun j v hv=>by
 by_cases e:j=i
 ·subst e;rw[bD hi,Option.some.injEq] at hv;subst hv;exact⟨fun _=>⟨hx.grown hg rfl fun a h2=>(ha a h2).2,hp,fun a h2=>⟨dB (ha a h2).1 hg.size,(ha a h2).2⟩⟩,fun h1=>by omega⟩
 ·rw[dD (fun e2=>e e2.symm)] at hv;have h1:=h j v hv;refine⟨fun hj=>?_,fun hj=>h1.2 zo⟩;obtain⟨c1,c2,c3⟩:=h1.1 zo;exact⟨c1.grown hg rfl fun a h2=>(c3 a h2).2,c2,fun a h2=>⟨dB (c3 a h2).1 hg.size,(c3 a h2).2⟩⟩
def CP1 (w:World) (g n:Nat) (T:List (List (Int×Rat))) (MM gk:Nat) (s:Value) (wr:World):Prop:=∃(i:Nat) (V:List Vc),i≤n∧n-i=gk∧s=.int .i64 (i:Int)∧OwnR wr w.heap.size 35 1 (.slice (some ⟨g,0,none⟩) n n) n (flat Vc.cs V)∧VK wr g T i MM V∧Below w.heap.size w wr
def TellsCO (w:World) (n M:Nat) (D:List (List (Int×Rat))) (e:Ending) (w':World):Prop:=∃g V,e=.returned (.slice (some ⟨g,0,none⟩) n n)∧(w.heap.size≤g∧g<w'.heap.size)∧OwnR w' w.heap.size 35 1 (.slice (some ⟨g,0,none⟩) n n) n (flat Vc.cs V)∧CVs w' (.slice (some ⟨g,0,none⟩) n n) M V∧V.map (fun v=>prs v.L)=D∧Below w.heap.size w w'
theorem copiedO_q {w:World} {n c:Nat} {C:List (List (Int×Rat))} (h:CW w A n c C M) (hC:Hid (∀x∈C,x.length≤1000)) (hM:M≤19000000000) (hn:n≤100000) (hT:Hid (Tab w)) :
  Calls Tryz.prog 72 #[.slice A n c] w (TellsCO w n M (C.map nrm)):=by
 obtain⟨CL,h,hcl,hce⟩:=h;have HCE:=zh hce;have HS:=zh h;have HLN:=zh h.1;have HCL:=zh hcl;clear h hcl hce;go_enter Tryz.func72,Tryz.ntmps72
 go_wp2_with (at_make;refine And.left (b:=True) ?_)
 refine⟨?_,trivial⟩;refine Elt.makeN elt_vcs zVc (fun i z h1 h2=>vc_zero h1 h2) rfl _ _ rfl .i64 .i64 n rfl rfl zo w.heap.size (aA _) ?_;intro g w1 ho1 b1;have HO1:=zh ho1;have HB1:=zh b1;have HGB:=zh (ho1.base g rfl);clear ho1 b1;go_wp2_with fail
 go_loopg [11] n (fun gk s wr=>CP1 w g n (C.map nrm) M gk s wr)
 case atStart=>exact⟨0,List.replicate n zVc,cB _,rfl,by go_num,HO1.out.below (by go_grown),(fun j v hv=>⟨fun hj=>by omega,fun _=>vD (eA hv)⟩),bT HB1.out⟩
 case round =>
  clear HO1 HB1;obtain⟨i,V,hi,hgk,rfl,ho,hvk,hB⟩:=hrel;have HGK:=zh hgk;have HGL:Hid (g<wr.heap.size):=zh (ho.lt g rfl);clear hgk;by_cases hlt:i<n
  ·obtain⟨b,off,rfl,hel⟩:=HS.out.at Vc.cs_len zo zo;obtain⟨v,hv⟩:∃v,CL[i]?=some v:=⟨CL[i]'(by rw[HLN.out];exact hlt),cA _⟩;have hnd:ElA w b (off+i) (Vc.cs v):=by have:=hel i v hv;rwa [gD] at this
   have hgv:=(HCL.out v (eA hv));have hvn:v.n≤1000:=by have h1:=hC.out (prs v.L) (by rw[←HCE.out];exact rC.2 ⟨v,eA hv,rfl⟩);have h2:=hgv.len;omega
   have HVL:=zh (show i<V.length by rw[ho.eltn elt_vcs zo];exact hlt);obtain⟨y0,hy0⟩:∃y,V[i]?=some y:=⟨V[i]'HVL.out,cA _⟩;have HV0:=zh hy0;have hti:(C.map nrm)[i]?=some (nrm (prs v.L)):=by rw[←HCE.out,qB,qB,hv];rfl
   have HTI0:=zh hti;have i1:(i:Int)<(n:Int):=zo;have i2:(0:Int)≤(i:Int):=zo;clear hel hv hy0 hti;have Bz:=zr wr;have pA0:=(hnd.below (bT hB Bz)).c0 (u:=.slice v.A v.n v.c) rfl;go_wp2_with fail
   with_reducible refine(normO_q (hgv.below (bT hB (bT (b:=wr) Bz))) hM zo (zt hT hB Bz)).mono ?_
   rintro e w11 ⟨A11,n11,c11,T,rfl,ht11,hn11,hq11,q⟩;replace q:=zq (a:=wr) q;replace ho:=ho.below q;replace hvk:=hvk.below q;replace Bz:=bT Bz q;clear q;have HTP:=zh hq11;have HGW:Hid (wr.heap.size≤wr.heap.size):=zh (show Below wr.heap.size wr wr from by go_grown).size;have HTI:Hid ((C.map nrm)[i]?=some (prs T)):=zh (by rw[HTP.out];exact HTI0.out);clear hq11;clear pA0;have pE0:=vc_cell ho HV0.out;have fE0:=ho.frozen i;have y54:=ho.blk.1;go_upto_region 6 with(fail)
   have hcn:=own_cnb ht11 hn11;obtain⟨V11,hV,ho2,hg2⟩:=vc_store ho HV0.out ⟨A11,n11,c11,T⟩;rw[←hV];clear hV;have hvk2:=VK.step hvk hg2 HVL.out hcn.1 HTI.out (fun a ha=>⟨(hcn.2 a ha).1,by have h1:=(hcn.2 a ha).2;have h2:=HGL.out;have:=HGW.out;omega⟩);replace hB:=(bT hB Bz).trans (hg2.below (zi (zww hB Bz)) (fun g' hg'=>by have:=ho.base g' hg';omega));replace ho:=ho2;replace hvk:=hvk2;clear ho2 hvk2 hg2 Bz hcn;have Bz:=zr V11;clear pE0 fE0 y54;go_wp2_with fail
   go_roundg (n-(i+1))
   case measure=>have:=HGK.out;omega
   case rel=>exact⟨i+1,_,zo,rfl,by go_num,OwnR.below ho,VK.below hvk,bT (bT hB Bz)⟩
  ·obtain rfl:i=n:=zo;have i1:¬(i:Int)<(i:Int):=zo;have hvl:=ho.eltn elt_vcs zo;have HOW:=zh ho;have HCV:Hid (CVs wr (.slice (some ⟨g,0,none⟩) i i) M V):=zh fun v hv=>by
    obtain⟨j,hj⟩:=rD hv;have h9:=(hvk j v hj).1 (zi (yB.1 hj).1);exact⟨h9.1,fun a ha=>⟨(h9.2.2 a ha).1,fun e=>(h9.2.2 a ha).2 (by cases e;rfl)⟩⟩
   have HMP:Hid (V.map (fun v=>prs v.L)=C.map nrm):=zh (by
    apply sE
    intro j;by_cases hji:j<i
    ·rw[((hvk j _ (cA zo)).1 hji).2.1,qB,cA zo];rfl
    ·rw[eB (by rw[xB];omega),eB (by rw[xB,←HCE.out,xB,HLN.out];omega)])
   clear ho hvl hvk;have Bz:=zr wr;go_wp2_with fail
   go_ret
   have hF:=bT (c:=wr) hB Bz;exact⟨g,V,rfl,⟨HGB.out,dB HGL.out (Below.size (w:=wr) (by go_grown))⟩,HOW.out.below (by go_grown),HCV.out.below (by go_grown),HMP.out,bT hF⟩
theorem copied_q {w:World} {n c:Nat} {C:List (List (Int×Rat))} (h:CW w A n c C M) (hC:Hid (∀x∈C,x.length≤1000)) (hM:M≤19000000000) (hn:n≤100000) (hT:Hid (Tab w)) :
  Calls Tryz.prog 72 #[.slice A n c] w fun e w'=>∃g,e=.returned (.slice (some ⟨g,0,none⟩) n n)∧(w.heap.size≤g∧g<w'.heap.size)∧CM w' (some ⟨g,0,none⟩) n n (C.map nrm) M∧Below w.heap.size w w' :=
 (copiedO_q h hC hM hn hT).mono fun _ _ ⟨g,_,h1,h2,h3,h4,h5,h6⟩=>⟨g,h1,h2,h5 ▸ h4.cm h3,h6⟩
theorem none_not {w:World} {bb fb cn cc en ec n most:Nat} {CA EA:Option Addr} (h:Bx w bb #[.slice CA cn cc,.int .i64 (n:Int),.int .i64 (most:Int),.pointer (some ⟨fb,0,none⟩),.slice EA en ec] 108):Calls Tryz.prog 73 #[.pointer (some ⟨bb,0,none⟩)] w fun e w'=>e=.returned (.bool false)∧Below w.heap.size w w':=by
 have HBB:=zh h;clear h;have hB:=Below.refl w.heap.size w;have Bz:=zr w;have p90_3:=(HBB.out.below Bz).cell 3 (.pointer (some ⟨fb,0,none⟩)) rfl;go_enter Tryz.func73,Tryz.ntmps73
 go_wp2_with fail
 go_ret
 have hF:=bT (c:=w) hB Bz;exact⟨rfl,bT hF⟩
structure EtM where
 rb:Nat
 pb:Nat
 sb:Nat
 r:Nat
 pv:Fr
 v:Vc
def EtM.cs (e:EtM):List Value:=[.func (.func 111) #[] #[.pointer (some ⟨e.rb,0,none⟩),.pointer (some ⟨e.pb,0,none⟩),.pointer (some ⟨e.sb,0,none⟩)],.func (.func 112) #[] #[.pointer (some ⟨e.sb,0,none⟩),.pointer (some ⟨e.rb,0,none⟩),.pointer (some ⟨e.pb,0,none⟩)]]
theorem EtM.cs_len (e:EtM):e.cs.length=2:=rfl
def EtM.f (e:EtM):EtaF:=⟨(e.r:Int),e.pv.q,prs e.v.L⟩
structure EtOk (w:World) (n K:Nat) (e:EtM):Prop where
 rb:Bx w e.rb #[.int .i64 (e.r:Int)] 3
 pb:Bx w e.pb #[.bool e.pv.s,.slice e.pv.A e.pv.l e.pv.c,.bool e.pv.s',.slice e.pv.A' e.pv.l' e.pv.c'] 30
 sb:Bx w e.sb #[.slice e.v.A e.v.n e.v.c] 35
 pv:RN w e.pv.s e.pv.A e.pv.c e.pv.l e.pv.s' e.pv.A' e.pv.c' e.pv.l' e.pv.q
 pz:sz e.pv.q+1≤K
 cn:CN w e.v K
 vb:∀a,e.v.A=some a→a.block<w.heap.size
 nrm:Nrm (prs e.v.L)
 inn:∀t∈prs e.v.L,0≤t.1∧t.1<(n:Int)
 r0:pget (prs e.v.L) (e.r:Int)=0
 rn:e.r<n
 vn:e.v.n≤1000
theorem EtOk.below {w:World} {n:Nat} {e:EtM} (h:EtOk w n K e) (hb:Below w.heap.size w w':=by go_grown):EtOk w' n K e :=
 ⟨h.rb.below hb,h.pb.below hb,h.sb.below hb,h.pv.below hb,h.pz,h.cn.below hb,fun a ha=>dB (h.vb a ha) hb.size,h.nrm,h.inn,h.r0,h.rn,h.vn⟩
theorem EtOk.kp {Z:Nat→Prop} {w:World} {n:Nat} {e:EtM} (h:EtOk w n K e) (hk:KP Z w w') (hz:∀b,b<w.heap.size→¬Z b):EtOk w' n K e :=
 ⟨hk.bx h.rb (hz _ h.rb.lt),hk.bx h.pb (hz _ h.pb.lt),hk.bx h.sb (hz _ h.sb.lt),h.pv.k hk.k,h.pz,⟨hk.sl h.cn.1 fun a ha=>hz _ (h.vb a ha),h.cn.2.1.k hk.k,h.cn.2.2⟩,fun a ha=>dB (h.vb a ha) hk.size,h.nrm,h.inn,h.r0,h.rn,h.vn⟩
theorem EtOk.mono {w:World} {n K':Nat} {e:EtM} (h:EtOk w n K e) (hK:K≤K'):EtOk w n K' e :=
 ⟨h.rb,h.pb,h.sb,h.pv,by have:=h.pz;omega,⟨h.cn.1,h.cn.2.1.mono fun _ _=>hK,h.cn.2.2⟩,h.vb,h.nrm,h.inn,h.r0,h.rn,h.vn⟩
theorem EtOk.nz {w:World} {n:Nat} {e:EtM} (h:EtOk w n K e):∀t∈e.v.L,t.x.q≠0:=fun t ht=>h.nrm.nz (t.at_,t.x.q) (rC.2 ⟨t,ht,rfl⟩)
theorem eta_f {w0 w:World} (h1:Below w0.heap.size w0 w) {n KD:Nat} {D:List Fr} {e:EtM} (h:EtOk w n K e) (hg:∀b,b<w0.heap.size→b≠g) (h0:EtOk w0 n K e) (ho:OwnR w w0.heap.size 30 4 (.slice (some ⟨g,0,none⟩) n n) n (flat Fr.cs D)) (hal:AllRn w KD D) (hn:n≤1000) (hD:4*KD+4*K≤20000000000) (hT0:Hid (Tab w0)) :
  Calls Tryz.prog 111 #[.slice (some ⟨g,0,none⟩) n n,.pointer (some ⟨e.rb,0,none⟩),.pointer (some ⟨e.pb,0,none⟩),.pointer (some ⟨e.sb,0,none⟩)] w (TellsEta w0 w g n (etaF e.f (numF (qs D))) (2*KD+3*K)) :=
 exF_q h1 h.rb h.pb h.sb (hg _ h0.rb.lt) (hg _ h0.pb.lt) (hg _ h0.sb.lt) h.pv h.pz h.cn (fun a ha=>hg _ (h0.vb a ha)) ho hal (zh h.nrm.rise) (zh h.r0) (zh h.inn) h.rn h.vn hn (zh h.nz) hD hT0
structure BsAt (w:World) (bb n most m M K:Nat) (C0 C:List (List (Int×Rat))) (E:List EtM) (A H:Option Addr) (c hc fb:Nat):Prop where
 bx:Bx w bb #[.slice A n c,.int .i64 (n:Int),.int .i64 (most:Int),.pointer (some ⟨fb,0,none⟩),.slice H E.length hc] 108
 cm:CM w A n c C M
 lu:LuAt w fb n m C0
 et:Sl EtM.cs 2 w H E.length hc E
 ok:∀e∈E,EtOk w n K e
 ch:Chain n C0 (E.map EtM.f) C
 el:E.length≤hc
theorem BsAt.below {w:World} {bb n most m c fb:Nat} {C0 C:List (List (Int×Rat))} {E:List EtM} {H:Option Addr} (h:BsAt w bb n most m M K C0 C E A H c hc fb) (hb:Below w.heap.size w w':=by go_grown):BsAt w' bb n most m M K C0 C E A H c hc fb :=
 ⟨h.bx.below hb,h.cm.below hb,h.lu.below hb,h.et.below hb,fun e he=>(h.ok e he).below hb,h.ch,h.el⟩
end Go.Proofs.YteggjbgbknkoiaaGreatDoor
